import PyProof.Rows.All
import Wide.All
import OpenK.AllK
import Wide.FinOn
import HandS.ForMost
import HandS.IsInst
import HandS.Wide
import HandS.SortInts
import HandS.Conv
import HandS.TupAny
import HandS.Deep
import HandS.TupLe
import HandS.Zip
import HandS.Flow
import HandS.CallLocal
import HandS.Exc
import HandS.TryOnly
import HandS.ExcOwn
import HandS.WordsExc
import HandS.ExcCtx
import HandS.HotCalls
import HandS.Lambda
import HandS.Gcd
import HandS.ExcIs
import KE.GoesMore
import KE.GoesEnum
import HandS.Small
import HandS.Style
import HandS.Defaults
import HandS.HeadEnd
import HandS.HeadWalk
import HandS.HeadHook4
import HandS.Codes
import HandS.Head0
import HandS.Head1
import HandS.Head2
import HandS.Head3
import HandS.HeadHook1
import HandS.HeadHook2
import HandS.HeadHook3
import PySem.Challenge.RW_archesjoined_k00_whole_field_numbers
section
set_option Elab.async false
set_option autoImplicit false
set_option linter.all false
set_option maxRecDepth 100000
namespace PF
open PySem PySem.Spec PyProof.Rows L2

/-- a value without addresses -/
inductive U where
  | non | bl (b : Bool) | int (i : Int) | str (s : Str)
  | tup (xs : List U) | lst (xs : List U)
  | dic (ks : List (Key × U))
  | fn (i : Nat)
  | scr (xs : List U)

/-- what a name's place holds: nothing, a value that nobody changes, a container that this name alone holds (pin: handed in by a caller), a loan of the name i -/
inductive Slot where
  | emp | val (u : U) | own (u : U) (pin : Bool) | bor (i : Nat)

abbrev En := List Slot

structure Exn where
  cls : Nat
  arg : List U

inductive Res (α : Type) where
  | ok (a : α) | exc (x : Exn) (env : En) | bad

def Res.bind {α β : Type} (r : Res α) (f : α → Res β) : Res β := match r with
  | .ok a => f a
  | .exc x e => .exc x e
  | .bad => .bad
@[simp] theorem Res.bind_ok {α β : Type} (a : α) (f : α → Res β) : (Res.ok a).bind f = f a := rfl
@[simp] theorem Res.bind_exc {α β : Type} (x : Exn) (e : En) (f : α → Res β) : (Res.exc x e : Res α).bind f = .exc x e := rfl
@[simp] theorem Res.bind_bad {α β : Type} (f : α → Res β) : (Res.bad : Res α).bind f = .bad := rfl
def Res.of {α : Type} : Option α → Res α
  | some a => .ok a
  | none => .bad
@[simp] theorem Res.of_some {α : Type} (a : α) : Res.of (some a) = .ok a := rfl
@[simp] theorem Res.of_none {α : Type} : Res.of (none : Option α) = .bad := rfl

/-- the defs: by number, from the places of the parameters to the answer and the places behind the call -/
abbrev Den := Nat → List Slot → Res (Slot × List Slot)

/-- tel: what a teller answers, by the exception of the lambda handed to it; hx: the class of the exception that is handled here; sub: which class is under which -/
structure Gx where
  modes : Nat → Option (List Bool)
  cst : List U
  den : Den
  tel : Nat → Option Exn → Option Str := fun _ _ => none
  hx : Option Nat := none
  sub : Nat → Nat → Option Bool := fun _ _ => none

inductive BOp where | add | sub | mul | fdiv | mod | pow
inductive COp where | eq | ne | lt | le | gt | ge | is | isnot | isin | notin
inductive Blt where | len | abs | max2 | min2 | sum | all | any | int | list | tuple | sorted | str
inductive ItK where | plain | rng1 | rng2 | rng3 | enum | zip

mutual
def U.eq : U → U → Bool
  | .non, .non => true
  | .bl a, .bl b => a == b
  | .bl a, .int j => (if a then 1 else 0) == j
  | .int i, .bl b => i == (if b then 1 else 0)
  | .int i, .int j => i == j
  | .str x, .str y => x == y
  | .lst xs, .lst ys => U.eqs xs ys
  | .tup xs, .tup ys => U.eqs xs ys
  | _, _ => false
def U.eqs : List U → List U → Bool
  | [], [] => true
  | x :: xs, y :: ys => U.eq x y && U.eqs xs ys
  | _, _ => false
end
mutual
/-- how deep data are; 1000 for what is none -/
def U.dep : U → Nat
  | .non | .bl _ | .int _ => 0
  | .str x => if PyData.strOk x then 0 else 1000
  | .lst xs | .tup xs => U.deps xs + 1
  | .dic _ | .fn _ | .scr _ => 1000
def U.deps : List U → Nat
  | [] => 0
  | x :: xs => max (U.dep x) (U.deps xs)
end
def U.data (u : U) : Bool := decide (u.dep ≤ 64)
def U.flat : U → Bool
  | .non | .bl _ | .int _ | .str _ => true
  | _ => false
def U.ints : List U → Option (List Int)
  | [] => some []
  | .int i :: r => (U.ints r).map (i :: ·)
  | _ :: _ => none
def U.bls : List U → Option (List Bool)
  | [] => some []
  | .bl i :: r => (U.bls r).map (i :: ·)
  | _ :: _ => none
/-- truth -/
def U.tru : U → Option Bool
  | .non => some false
  | .bl b => some b
  | .int i => some (i != 0)
  | .str s => if s.length ≤ sizeLine then some ((s.length : Int) != 0) else none
  | .lst xs => some (!xs.isEmpty)
  | .tup xs => some (!xs.isEmpty)
  | .dic ks => some (!ks.isEmpty)
  | _ => none

def mulOk (i j : Int) : Bool := (decide (-(2 ^ 64) < j) && decide (j < 2 ^ 64)) || (decide (-(2 ^ 64) < i) && decide (i < 2 ^ 64)) || decide (i.natAbs.log2 + j.natAbs.log2 < 1000000)
def divOk (j : Int) : Bool := decide (0 < j) && (decide (j < 1073741824) || decide (j.natAbs.log2 < 9000))
def opF : BOp → U → U → Option Slot
  | .add, .int i, .int j => some (.val (.int (i + j)))
  | .add, .str x, .str y => if x.length + y.length ≤ sizeLine then some (.val (.str (x ++ y))) else none
  | .add, .lst x, .lst y => if x.length + y.length ≤ sizeLine then some (.own (.lst (x ++ y)) false) else none
  | .add, .tup x, .tup y => if x.length + y.length ≤ sizeLine then some (.val (.tup (x ++ y))) else none
  | .sub, .int i, .int j => some (.val (.int (i - j)))
  | .mul, .int i, .int j => if mulOk i j then some (.val (.int (i * j))) else none
  | .mul, .lst x, .int j => if -(2 ^ 63) ≤ j ∧ j < 2 ^ 63 ∧ x.length * j.toNat ≤ sizeLine then some (.own (.lst (List.replicate j.toNat x).flatten) false) else none
  | .fdiv, .int i, .int j => if divOk j then some (.val (.int (i / j))) else none
  | .mod, .int i, .int j => if 0 < j then some (.val (.int (i % j))) else none
  | .pow, .int i, .int j => if 0 ≤ j ∧ j ≤ 1000000 ∧ i.natAbs < 2 ^ 64 then some (.val (.int (i ^ j.toNat))) else none
  | _, _, _ => none

def inF (x : U) (ys : List U) : Option Bool := if x.flat && ys.all U.flat then some (ys.any fun y => U.eq y x) else none
def keyF : U → Option Key
  | .int i => some (.inl i)
  | .str s => some (.inr s)
  | _ => none
def valU (ks : List (Key × U)) (k : Key) : Option U := (ks.find? fun kv => decide (kv.1 = k)).map (·.2)
def putU (ks : List (Key × U)) (k : Key) (v : U) : List (Key × U) := if (ks.any fun kv => decide (kv.1 = k)) = true then ks.map (fun kv => if kv.1 = k then (kv.1, v) else kv) else ks ++ [(k, v)]
def cmpF : COp → U → U → Option Bool
  | .eq, a, b => if a.data && b.data then some (U.eq a b) else none
  | .ne, a, b => if a.data && b.data then some (!U.eq a b) else none
  | .lt, .int i, .int j => some (decide (i < j))
  | .le, .int i, .int j => some (decide (i ≤ j))
  | .gt, .int i, .int j => some (decide (j < i))
  | .ge, .int i, .int j => some (decide (j ≤ i))
  | .is, a, .non => (match a with | .non => some true | _ => some false)
  | .isnot, a, .non => (match a with | .non => some false | _ => some true)
  | .isin, x, .lst ys => inF x ys
  | .isin, x, .tup ys => inF x ys
  | .notin, x, .lst ys => (inF x ys).map (!·)
  | .notin, x, .tup ys => (inF x ys).map (!·)
  | .isin, k, .dic ks => (keyF k).map fun k => (valU ks k).isSome
  | .notin, k, .dic ks => (keyF k).map fun k => !(valU ks k).isSome
  | _, _, _ => none

def atU (xs : List U) (i : Int) : Option U := L2.atI xs i
def idxF : U → U → Option U
  | .lst xs, .int i => atU xs i
  | .tup xs, .int i => atU xs i
  | .str s, .int i => if s.length ≤ sizeLine then (L2.atI s.cps.toList i).map fun c => .str ⟨#[c]⟩ else none
  | .dic ks, k => (keyF k).bind fun k => valU ks k
  | _, _ => none
def cutU (xs : List U) (lo hi : Option Int) : List U := (xs.drop (HT.sIx xs.length 0 lo)).take (HT.sIx xs.length xs.length hi - HT.sIx xs.length 0 lo)
def slcF : U → Option Int → Option Int → Option Slot
  | .lst xs, lo, hi => some (.own (.lst (cutU xs lo hi)) false)
  | .tup xs, lo, hi => some (.val (.tup (cutU xs lo hi)))
  | _, _, _ => none

def bltF : Blt → List U → Option Slot
  | .len, [.lst xs] => some (.val (.int xs.length))
  | .len, [.tup xs] => some (.val (.int xs.length))
  | .len, [.str s] => if s.length ≤ sizeLine then some (.val (.int s.length)) else none
  | .abs, [.int i] => some (.val (.int (if i < 0 then -i else i)))
  | .max2, [.int i, .int j] => some (.val (.int (if j > i then j else i)))
  | .min2, [.int i, .int j] => some (.val (.int (if j < i then j else i)))
  | .sum, [.lst xs] => (U.ints xs).map fun ns => .val (.int ns.sum)
  | .all, [.lst xs] => (U.bls xs).map fun ns => .val (.bl (ns.all id))
  | .any, [.lst xs] => (U.bls xs).map fun ns => .val (.bl (ns.any id))
  | .int, [.int i] => some (.val (.int i))
  | .int, [.bl b] => some (.val (.int (if b then 1 else 0)))
  | .list, [.lst xs] => some (.own (.lst xs) false)
  | .list, [.tup xs] => some (.own (.lst xs) false)
  | .list, [.scr xs] => some (.own (.lst xs) false)
  | .tuple, [.lst xs] => some (.val (.tup xs))
  | .tuple, [.tup xs] => some (.val (.tup xs))
  | .sorted, [.lst xs] => (U.ints xs).map fun ns => .own (.lst ((ns.mergeSort (fun a b => decide (a ≤ b))).map U.int)) false
  | .str, [.int i] => if i.natAbs.log2 < 1920 then some (.val (.str (Str.ofString (toString i)))) else none
  | _, _ => none

def U.strs : List U → Option (List Str)
  | [] => some []
  | .str x :: r => (U.strs r).map (x :: ·)
  | _ :: _ => none
/-- s.join(texts) -/
def joinF : U → U → Option U
  | .str s, .lst xs => (U.strs xs).bind fun ws => if (ws.map (·.length)).sum + ws.length * s.length ≤ 16777216 then some (.str (Txt.join s ws)) else none
  | .str s, .tup xs => (U.strs xs).bind fun ws => if (ws.map (·.length)).sum + ws.length * s.length ≤ 16777216 then some (.str (Txt.join s ws)) else none
  | _, _ => none
def gcdF : U → U → Option U
  | .int i, .int j => some (.int (Nat.gcd i.natAbs j.natAbs : Nat))
  | _, _ => none
/-- the number under which the handled exception goes -/
def hotN : Nat := 1000000
/-- the built-in types that isinstance asks -/
inductive TyN where | int | bool | str | tuple | list
def istF : TyN → U → Option Bool
  | _, .fn _ => none
  | _, .dic _ => none
  | _, .scr _ => none
  | .int, .int _ => some true
  | .int, .bl _ => some true
  | .bool, .bl _ => some true
  | .str, .str _ => some true
  | .tuple, .tup _ => some true
  | .list, .lst _ => some true
  | _, _ => some false

/-- expressions; nil and cons make argument lists -/
inductive E where
  | nil | cons (a r : E)
  | var (i : Nat) | bor (i : Nat) | mov (i : Nat)
  | con (u : U) | glc (k : Nat) | fnr (i : Nat)
  | tup (es : E) | lst (es : E) | dic0
  | bin (op : BOp) (a b : E) | neg (a : E) | not (a : E)
  | cmp (op : COp) (a b : E) | chn (op op' : COp) (a b c : E)
  | and (a b : E) | or (a b : E) | ite (c a b : E)
  | call (f : Nat) (es : E) | cvar (i : Nat) (es : E)
  | blt (b : Blt) (es : E) | ist (t : TyN) (a : E)
  | idx (a b : E) | slc (a lo hi : E)
  | lrg (k : ItK) (es : E) | trg (k : ItK) (es : E)
  | itr (k : ItK) (es : E)
  | cmp1 (own : List Nat) (tg : E) (it c elt : E)
  | lam (f : Nat) (e : E) | isx (i c : Nat) | join (a b : E) | gcd (a b : E)
  | tnm (i : Nat) | ttp (es : E)

inductive S where
  | nil | seq (a r : S)
  | pas | brk | cnt
  | set (i : Nat) (e : E) | own (i : Nat) (e : E) | unp (tg e : E)
  | par (ts es : E)
  | par2 (i : Nat) (k : E) (j : Nat) (l a b : E)
  | sub (i : Nat) (ix e : E) | app (i : Nat) (e : E)
  | exp (e : E) | ret (e : E) | retn | rse (c : Nat)
  | iff (c : E) (a b : S)
  | for_ (tg it : E) (b : S)
  | whl (c : E) (b : S)

def frz : Slot → Option U
  | .val u => some u
  | .own u false => some u
  | _ => none
/-- what an operand is worth now -/
def look (env : En) : Slot → Option U
  | .val u => some u
  | .own u _ => some u
  | .bor i => (match env[i]? with
    | some (.val u) => some u
    | some (.own u _) => some u
    | _ => none)
  | .emp => none
def looks (env : En) : List Slot → Option (List U)
  | [] => some []
  | s :: r => (look env s).bind fun u => (looks env r).map (u :: ·)
def frzs : List Slot → Option (List U)
  | [] => some []
  | s :: r => (frz s).bind fun u => (frzs r).map (u :: ·)
/-- a value into a name's place; a place that a caller lent stays -/
def put (env : En) (i : Nat) (s : Slot) : Option En := match env[i]? with
  | some (.own _ true) => none
  | some _ => some (env.set i s)
  | none => none
/-- the places of a call's arguments: md tells which are lent -/
def argsF (env : En) : List Bool → List Slot → Option (List Slot)
  | [], [] => some []
  | false :: md, s :: r => (frz s).bind fun u => (argsF env md r).map (.val u :: ·)
  | true :: md, .bor i :: r => (match env[i]? with
    | some (.own u _) => (argsF env md r).map (.own u true :: ·)
    | _ => none)
  | _, _ => none
/-- the lent ones come back -/
def backF (env : En) : List Slot → List Slot → Option En
  | [], [] => some env
  | .bor i :: r, .own u true :: os => (match env[i]? with
    | some (.own _ p) => backF (env.set i (.own u p)) r os
    | _ => none)
  | .bor _ :: _, _ => none
  | _ :: r, _ :: os => backF env r os
  | _, _ => none
def borrows : List Slot → List Nat
  | [] => []
  | .bor i :: r => i :: borrows r
  | _ :: r => borrows r
def storeU : E → U → En → Option En
  | .tnm i, u, env => put env i (.val u)
  | .ttp es, .tup us, env => storeU es (.lst us) env
  | .nil, .lst [], env => some env
  | .cons t r, .lst (u :: us), env => (storeU t u env).bind fun env => storeU r (.lst us) env
  | _, _, _ => none
def upU (i j : Int) : List U := (List.range (j - i).toNat).map fun (k : Nat) => .int (i + (k : Int))
def downU (i j : Int) : List U := (List.range (i - j).toNat).map fun (k : Nat) => .int (i + (k : Int) * (-1))
def enumU (n : Nat) : List U → List U
  | [] => []
  | x :: r => .tup [.int n, x] :: enumU (n + 1) r
def zipU : List U → List U → List U
  | x :: xs, y :: ys => .tup [x, y] :: zipU xs ys
  | _, _ => []
def near (i : Int) : Bool := decide (-(2 ^ 62) ≤ i) && decide (i < 2 ^ 62)
def itF : ItK → List U → Option (List U)
  | .plain, [.lst xs] => some xs
  | .plain, [.tup xs] => some xs
  | .rng1, [.int j] => if near j then some (upU 0 j) else none
  | .rng2, [.int i, .int j] => if near i && near j then some (upU i j) else none
  | .rng3, [.int i, .int j, .int c] => if near i && near j && (c == -1) then some (downU i j) else none
  | .enum, [.lst xs] => some (enumU 0 xs)
  | .enum, [.tup xs] => some (enumU 0 xs)
  | .zip, [.lst xs, .lst ys] => some (zipU xs ys)
  | .zip, [.tup xs, .tup ys] => some (zipU xs ys)
  | _, _ => none
def wipeE (env : En) : List Nat → En
  | [] => env
  | v :: vs => (wipeE env vs).set v .emp
/-- the places of own names as they were -/
def unwipe (old env : En) : List Nat → En
  | [] => env
  | v :: vs => (unwipe old env vs).set v (old.getD v .emp)

/-- a part of a slice -/
def partF (e : E) (run : En → Res (Slot × En)) (env : En) : Res (Option Int × En) := match e with
  | .nil => .ok (none, env)
  | _ => (run env).bind fun (p, env) => match look env p with
    | some (.int i) => .ok (some i, env)
    | _ => .bad
/-- a comprehension's test -/
def condF (e : E) (run : En → Res (Slot × En)) (env : En) : Res (Bool × En) := match e with
  | .nil => .ok (true, env)
  | _ => (run env).bind fun (p, env) => (Res.of (look env p)).bind fun u => (Res.of u.tru).bind fun k => .ok (k, env)
section
variable (G : Gx)
def callD (f : Nat) (ws : List Slot) (env : En) : Res (Slot × En) :=
  (Res.of (G.modes f)).bind fun md =>
  (Res.of (argsF env md ws)).bind fun as =>
  if (borrows ws).Nodup then
    match G.den f as with
    | .ok (.val u, os) => (Res.of (backF env ws os)).bind fun env => .ok (.val u, env)
    | .ok (.own u false, os) => (Res.of (backF env ws os)).bind fun env => .ok (.own u false, env)
    | .ok _ => .bad
    | .exc x os => (match backF env ws os with
      | some env => .exc x env
      | none => .bad)
    | .bad => .bad
  else .bad
/-- a comprehension's turns -/
def compGo (turn : U → En → Res (Option U × En)) : List U → En → Res (List U × En)
  | [], env => .ok ([], env)
  | x :: r, env => (turn x env).bind fun (o, env) => (compGo turn r env).bind fun (us, env) => .ok (match o with
    | some u => (u :: us, env)
    | none => (us, env))
def turnC (vs : List Nat) (tg c : E) (rc re : En → Res (Slot × En)) (x : U) (e : En) : Res (Option U × En) :=
  (Res.of (storeU tg x e)).bind fun e => (condF c rc e).bind fun (k, e) =>
  if k then (re e).bind fun (w, e) => (Res.of (frz w)).bind fun u => .ok (some u, wipeE e vs) else .ok (none, wipeE e vs)
/-- a place that a comprehension's name may take -/
def okS (env : En) (v : Nat) : Bool := match env[v]? with
  | some .emp => true
  | some (.val _) => true
  | _ => false
def noExc {α : Type} : Res α → Res α
  | .exc _ _ => .bad
  | r => r
mutual
def evE : E → En → Res (Slot × En)
  | .var i, env => (match env[i]? with
    | some (.val u) => .ok (.val u, env)
    | some (.own u false) => .ok (.val u, env.set i (.val u))
    | _ => .bad)
  | .bor i, env => (match env[i]? with
    | some (.val _) => .ok (.bor i, env)
    | some (.own _ _) => .ok (.bor i, env)
    | _ => .bad)
  | .mov i, env => (match env[i]? with
    | some (.val u) => .ok (.val u, env)
    | some (.own u false) => .ok (.own u false, env.set i .emp)
    | _ => .bad)
  | .con u, env => .ok (.val u, env)
  | .glc k, env => (Res.of G.cst[k]?).bind fun u => .ok (.val u, env)
  | .fnr i, env => .ok (.val (.fn i), env)
  | .tup es, env => (evL es env).bind fun (ws, env) => (Res.of (frzs ws)).bind fun us => if us.length ≤ sizeLine then .ok (.val (.tup us), env) else .bad
  | .lst es, env => (evL es env).bind fun (ws, env) => (Res.of (frzs ws)).bind fun us => if us.length ≤ sizeLine then .ok (.own (.lst us) false, env) else .bad
  | .dic0, env => .ok (.own (.dic []) false, env)
  | .bin op a b, env => (evE a env).bind fun (p, env) => (evE b env).bind fun (q, env) =>
    (Res.of (look env p)).bind fun u => (Res.of (look env q)).bind fun v => (Res.of (opF op u v)).bind fun w => .ok (w, env)
  | .neg a, env => (evE a env).bind fun (p, env) => (match look env p with
    | some (.int i) => .ok (.val (.int (-i)), env)
    | _ => .bad)
  | .not a, env => (evE a env).bind fun (p, env) => (Res.of (look env p)).bind fun u => (Res.of u.tru).bind fun b => .ok (.val (.bl (!b)), env)
  | .cmp op a b, env => (evE a env).bind fun (p, env) => (evE b env).bind fun (q, env) =>
    (Res.of (look env p)).bind fun u => (Res.of (look env q)).bind fun v => (Res.of (cmpF op u v)).bind fun w => .ok (.val (.bl w), env)
  | .chn op op' a b c, env => (evE a env).bind fun (p, env) => (evE b env).bind fun (q, env) =>
    (Res.of (look env p)).bind fun u => (Res.of (look env q)).bind fun v => (Res.of (cmpF op u v)).bind fun w =>
    if w then (evE c env).bind fun (r, env) => (Res.of (look env q)).bind fun v => (Res.of (look env r)).bind fun x => (Res.of (cmpF op' v x)).bind fun w => .ok (.val (.bl w), env)
    else .ok (.val (.bl false), env)
  | .and a b, env => (evE a env).bind fun (p, env) => (Res.of (frz p)).bind fun u => (Res.of u.tru).bind fun k => if k then evE b env else .ok (.val u, env)
  | .or a b, env => (evE a env).bind fun (p, env) => (Res.of (frz p)).bind fun u => (Res.of u.tru).bind fun k => if k then .ok (.val u, env) else evE b env
  | .ite c a b, env => (evE c env).bind fun (p, env) => (Res.of (look env p)).bind fun u => (Res.of u.tru).bind fun k => if k then evE a env else evE b env
  | .call f es, env => (evL es env).bind fun (ws, env) => callD G f ws env
  | .cvar i es, env => (match env[i]? with
    | some (.val (.fn f)) => (evL es env).bind fun (ws, env) => callD G f ws env
    | _ => .bad)
  | .blt b es, env => (evL es env).bind fun (ws, env) => (Res.of (looks env ws)).bind fun us => (Res.of (bltF b us)).bind fun w => .ok (w, env)
  | .ist t a, env => (evE a env).bind fun (p, env) => (Res.of (look env p)).bind fun u => (Res.of (istF t u)).bind fun b => .ok (.val (.bl b), env)
  | .idx a b, env => (evE a env).bind fun (p, env) => (evE b env).bind fun (q, env) =>
    (Res.of (look env p)).bind fun u => (Res.of (look env q)).bind fun v => (Res.of (idxF u v)).bind fun w => .ok (.val w, env)
  | .slc a lo hi, env => (evE a env).bind fun (p, env) => (partF lo (evE lo) env).bind fun (l, env) => (partF hi (evE hi) env).bind fun (h, env) =>
    (Res.of (look env p)).bind fun u => (Res.of (slcF u l h)).bind fun w => .ok (w, env)
  | .lrg k es, env => (evL es env).bind fun (ws, env) => (Res.of (looks env ws)).bind fun us => (Res.of (itF k us)).bind fun xs => if xs.length ≤ sizeLine then .ok (.own (.lst xs) false, env) else .bad
  | .trg k es, env => (evL es env).bind fun (ws, env) => (Res.of (looks env ws)).bind fun us => (Res.of (itF k us)).bind fun xs => if xs.length ≤ sizeLine then .ok (.val (.tup xs), env) else .bad
  | .cmp1 vs tg it c elt, env => (evI it env).bind fun (xs, env) =>
    if vs.all (okS env) then
      (noExc (compGo (turnC vs tg c (evE c) (evE elt)) xs (wipeE env vs))).bind fun (us, e) =>
      if us.length ≤ sizeLine then .ok (.own (.lst us) false, unwipe env e vs) else .bad
    else .bad
  | .lam f e, env => (match evE e env with
    | .ok (_, env) => (Res.of (G.tel f none)).bind fun u => .ok (.val (.str u), env)
    | .exc x env => (Res.of (G.tel f (some x))).bind fun u => .ok (.val (.str u), env)
    | .bad => .bad)
  | .isx i c, env => (match env[i]? with
    | some (.val (.fn j)) => if j = hotN then (Res.of G.hx).bind fun D => (Res.of (G.sub D c)).bind fun b => .ok (.val (.bl b), env) else .bad
    | _ => .bad)
  | .join a b, env => (evE a env).bind fun (p, env) => (evE b env).bind fun (q, env) =>
    (Res.of (look env p)).bind fun u => (Res.of (look env q)).bind fun v => (Res.of (joinF u v)).bind fun w => .ok (.val w, env)
  | .gcd a b, env => (evE a env).bind fun (p, env) => (evE b env).bind fun (q, env) =>
    (Res.of (look env p)).bind fun u => (Res.of (look env q)).bind fun v => (Res.of (gcdF u v)).bind fun w => .ok (.val w, env)
  | _, _ => .bad
/-- argument lists -/
def evL : E → En → Res (List Slot × En)
  | .nil, env => .ok ([], env)
  | .cons a r, env => (evE a env).bind fun (w, env) => (evL r env).bind fun (ws, env) => .ok (w :: ws, env)
  | _, _ => .bad
/-- what is walked -/
def evI : E → En → Res (List U × En)
  | .itr k es, env => (evL es env).bind fun (ws, env) => (Res.of (frzs ws)).bind fun us => (Res.of (itF k us)).bind fun xs => .ok (xs, env)
  | _, _ => .bad

end
inductive Fl where | nx | bk | ct | rt (w : Slot)
def forGo (turn : U → En → Res (Fl × En)) : List U → En → Res (Fl × En)
  | [], env => .ok (.nx, env)
  | x :: r, env => (turn x env).bind fun (f, env) => match f with
    | .nx => forGo turn r env
    | .ct => forGo turn r env
    | .bk => .ok (.nx, env)
    | .rt w => .ok (.rt w, env)
def whlGo (test : En → Res (Bool × En)) (body : En → Res (Fl × En)) : Nat → En → Res (Fl × En)
  | 0, _ => .bad
  | n + 1, env => (test env).bind fun (k, env) => if k then (body env).bind fun (f, env) => (match f with
      | .nx => whlGo test body n env
      | .ct => whlGo test body n env
      | .bk => .ok (.nx, env)
      | .rt w => .ok (.rt w, env))
    else .ok (.nx, env)
/-- a fresh container stays its name's own -/
def keepF (env : En) (i : Nat) : Slot → Option En
  | .own u false => put env i (.own u false)
  | _ => none
/-- t1, t2 = .. : the targets one by one; own places keep what is fresh -/
def parF : E → List Slot → En → Option En
  | .nil, [], env => some env
  | .cons (.tnm i) r, s :: ws, env => (frz s).bind fun u => (put env i (.val u)).bind fun env => parF r ws env
  | .cons (.mov i) r, s :: ws, env => (keepF env i s).bind fun env => parF r ws env
  | _, _, _ => none
/-- x[k] = v -/
def subF : U → U → U → Option U
  | .lst xs, .int k, v => (L2.ixN xs.length k).map fun j => .lst (xs.set j v)
  | .dic ks, k, v => (keyF k).bind fun k => if ks.length < sizeLine then some (.dic (putU ks k v)) else none
  | _, _, _ => none
def subE (env : En) (i : Nat) (k v : U) : Option En := match env[i]? with
  | some (.own u p) => (subF u k v).map fun u => env.set i (.own u p)
  | _ => none
def appE (env : En) (i : Nat) (v : U) : Option En := match env[i]? with
  | some (.own (.lst xs) p) => if xs.length < sizeLine then some (env.set i (.own (.lst (xs ++ [v])) p)) else none
  | _ => none
def ownB (env : En) (i : Nat) : Bool := match env[i]? with
  | some (.own _ _) => true
  | _ => false
def ownL (env : En) (i : Nat) : Bool := match env[i]? with
  | some (.own (.lst _) _) => true
  | _ => false
def fuel : Nat := 1000000000
def exS : S → En → Res (Fl × En)
  | .nil, env => .ok (.nx, env)
  | .seq a r, env => (exS a env).bind fun (f, env) => (match f with
    | .nx => exS r env
    | f => .ok (f, env))
  | .pas, env => .ok (.nx, env)
  | .brk, env => .ok (.bk, env)
  | .cnt, env => .ok (.ct, env)
  | .set i e, env => (evE G e env).bind fun (w, env) => (Res.of (frz w)).bind fun u => (Res.of (put env i (.val u))).bind fun env => .ok (.nx, env)
  | .own i e, env => (evE G e env).bind fun (w, env) => (Res.of (keepF env i w)).bind fun env => .ok (.nx, env)
  | .unp tg e, env => (evE G e env).bind fun (w, env) => (Res.of (frz w)).bind fun u => (Res.of (storeU tg u env)).bind fun env => .ok (.nx, env)
  | .par ts es, env => (evL G es env).bind fun (ws, env) => (Res.of (parF ts ws env)).bind fun env => .ok (.nx, env)
  | .par2 i k j l a b, env => (evL G (.cons a (.cons b .nil)) env).bind fun (ws, env) => (Res.of (frzs ws)).bind fun us => match us with
    | [u, v] => if ownB env i then
        (evE G k env).bind fun (r, env) => (Res.of (look env r)).bind fun x => (Res.of (subE env i x u)).bind fun env =>
        if ownB env j then (evE G l env).bind fun (r, env) => (Res.of (look env r)).bind fun x => (Res.of (subE env j x v)).bind fun env => .ok (.nx, env)
        else .bad
      else .bad
    | _ => .bad
  | .sub i k e, env => (evE G e env).bind fun (w, env) => (Res.of (frz w)).bind fun u => if ownB env i then (evE G k env).bind fun (r, env) => (Res.of (look env r)).bind fun x =>
    (Res.of (subE env i x u)).bind fun env => .ok (.nx, env) else .bad
  | .app i e, env => if ownL env i then (evE G e env).bind fun (w, env) => (Res.of (frz w)).bind fun u => (Res.of (appE env i u)).bind fun env => .ok (.nx, env) else .bad
  | .exp e, env => (evE G e env).bind fun (_, env) => .ok (.nx, env)
  | .ret e, env => (evE G e env).bind fun (w, env) => (match w with
    | .bor _ => .bad
    | w => .ok (.rt w, env))
  | .retn, env => .ok (.rt (.val .non), env)
  | .rse c, env => .exc ⟨c, []⟩ env
  | .iff c a b, env => (condF c (evE G c) env).bind fun (k, env) => if k then exS a env else exS b env
  | .for_ tg it b, env => (evI G it env).bind fun (xs, env) => forGo (fun x env => (Res.of (storeU tg x env)).bind fun env => exS b env) xs env
  | .whl c b, env => whlGo (condF c (evE G c)) (exS b) fuel env

/-- a def: how many places, which parameters are lent, its body -/
structure Fn where
  n : Nat
  md : List Bool
  body : S
end
def outsF : List Bool → En → List Slot → List Slot
  | true :: md, s :: env, _ :: as => s :: outsF md env as
  | false :: md, _ :: env, a :: as => a :: outsF md env as
  | _, _, _ => []
/-- a def's run -/
def runFn (G : Gx) (f : Fn) (as : List Slot) : Res (Slot × List Slot) :=
  match exS G f.body (as ++ List.replicate (f.n - as.length) .emp) with
  | .ok (.rt (.val u), env) => .ok (.val u, outsF f.md env as)
  | .ok (.rt (.own u false), env) => .ok (.own u false, outsF f.md env as)
  | .ok (.nx, env) => .ok (.val .non, outsF f.md env as)
  | .ok _ => .bad
  | .exc x env => .exc x (outsF f.md env as)
  | .bad => .bad
/-- a teller: how many places, the place of the exception's name, the except suite, the answer where none came -/
structure Tel where
  n : Nat
  ex : Nat
  suite : S
  dflt : Str
/-- sub: of each class the numbers of those that it is under -/
structure Prg where
  fns : List Fn
  cst : List U
  tels : List Tel := []
  sup : List (List Nat) := []
def Prg.sub (P : Prg) (d c : Nat) : Option Bool := P.sup[d]?.map fun l => l.contains c
def telF (cst : List U) (sub : Nat → Nat → Option Bool) (t : Tel) : Option Exn → Option Str
  | none => some t.dflt
  | some x => (match exS { modes := fun _ => none, cst := cst, den := fun _ _ => .bad, hx := some x.cls, sub := sub } t.suite ((List.replicate t.n Slot.emp).set t.ex (.val (.fn hotN))) with
    | .ok (.rt (.val (.str s)), _) => some s
    | _ => none)
def Prg.tel (P : Prg) (i : Nat) (o : Option Exn) : Option Str := P.tels[i]?.bind fun t => telF P.cst P.sub t o
def Prg.modes (P : Prg) (i : Nat) : Option (List Bool) := P.fns[i]?.map (·.md)
def Prg.gx (P : Prg) (d : Den) : Gx := { modes := P.modes, cst := P.cst, den := d, tel := P.tel, sub := P.sub }
/-- the defs to a depth -/
def Prg.den (P : Prg) : Nat → Den
  | 0, _, _ => .bad
  | k + 1, i, as => match P.fns[i]? with
    | some f => runFn (P.gx (P.den k)) f as
    | none => .bad
end PF
end
section
set_option Elab.async false
set_option autoImplicit false
set_option linter.all false
set_option maxRecDepth 100000
namespace PF
open PySem PySem.Spec PyProof.Rows L2 HotX

section
variable {P : Program} {w : World} {B : Around} {R : Value → Shared → Prop} {g : Shared}
/-- a list's iterator at the end, the exception x being handled -/
theorem lst_done {i l x : Addr} {n : Nat} {xs : Array Value} {G : Option Value → Shared → Prop} (hot : HotAt B x g.heap) (hxi : x ≠ i) (hi : g.heap.IsListIter i l n) (hl : g.heap.IsList l xs) (hn : xs[n]? = none)
    (hG : ∀ z, (∀ b u, b ≠ i → g.heap.get? b = some u → z.get? b = some u) → G none { g with heap := z }) : wpAny (model P w) B (pyNext (.ref i)) G R g := by
  obtain ⟨oi, ei, ci, di⟩ := id hi
  obtain ⟨ol, el, _, nl, dl⟩ := hl
  obtain ⟨hh, ox, vx, ex, dx, cx⟩ := hot
  unfold pyNext
  refine wpAny_bind (wpAny_attempt (wpAny_callSpecial?_slot (name := Str.ofString "__next__") hi.typeIs slot_listiter_next (wpAny_call_entry slot_listiter_next hi.typeIs entry_listiter_next ?_ (args_listiter_next _))))
  show wpAny _ _ (field (.ref i) 0 >>= _) _ _ g
  refine wpAny_bind (wpAny_field ei di (x := .ref l) rfl ?_)
  show wpAny _ _ (if (Value.ref l == Value.none) = true then _ else _) _ _ g
  rw [if_neg (show ¬ ((Value.ref l == Value.none) = true) from Bool.false_ne_true)]
  show wpAny _ _ (field (.ref i) 1 >>= _) _ _ g
  refine wpAny_bind (wpAny_field ei di (x := .int n 0) rfl ?_)
  show wpAny _ _ (seqItems? (.ref l) >>= _) _ _ g
  refine wpAny_bind (wpAny_seqItems el dl ?_)
  simp only [Int.toNat_natCast, hn]
  refine wpAny_bind (wpAny_rule (wpAny_bind (wpAny_setField ei di (by simp) ?_)))
  show wpAny _ _ (newExc (.type "StopIteration") [] >>= _) _ _ _
  refine wpAny_bind ?_
  simp only [newExc, newTuple]
  refine wpAny_bind (wpAny_newObj_type ?_ (by size_fits))
  refine wpAny_bind (m := firstArgMember _ _) (wpAny_of_eq (a := Value.none) (by first | rfl | (simp only [firstArgMember]; rfl)) ?_)
  refine wpAny_newObj_type ?_ (by size_fits)
  have e0 : ∀ {f : Obj → Obj} {p q : Obj}, (((g.heap.update i f).push p).push q).get? x = some ox := fun {f p q} => Heap.get?_push_of_some _ (Heap.get?_push_of_some _ ((Heap.get?_update_other _ _ hxi.symm).trans ex))
  refine raiseNew_hot ⟨hh, ox, vx, e0, dx, cx⟩ (Nat.ne_of_lt ?_) (Heap.get?_push_size _ rfl) rfl (by first | (simp; done) | (simp; omega) | (simp only [Array.size_append]; simp; omega)) ?_
  · exact Heap.lt_size (Heap.get?_push_of_some _ ((Heap.get?_update_other _ _ hxi.symm).trans ex))
  refine wpAny_bind (wpAny_isInstance (T := "StopIteration") (b := true) ⟨_, Heap.get?_update_self _ (Heap.get?_push_size _ rfl) rfl, rfl⟩ isSubtype_stop ?_)
  refine wpAny_pure (hG _ fun b u hb e => ?_)
  have u1 : ∀ {f : Obj → Obj}, (g.heap.update i f).get? b = some u := fun {f} => (Heap.get?_update_other _ _ (fun z => hb z.symm)).trans e
  exact (Heap.get?_update_other _ _ (Nat.ne_of_gt (Heap.lt_size (Heap.get?_push_of_some _ u1)))).trans (Heap.get?_push_of_some _ (Heap.get?_push_of_some _ u1))
/-- a tuple's iterator at the end -/
theorem tup_done {i l x : Addr} {n : Nat} {xs : Array Value} {G : Option Value → Shared → Prop} (hot : HotAt B x g.heap) (hxi : x ≠ i) (hi : IsTupIter g.heap i l n) (hl : IsTup g.heap l xs) (hn : xs[n]? = none)
    (hG : ∀ z, (∀ b u, b ≠ i → g.heap.get? b = some u → z.get? b = some u) → G none { g with heap := z }) : wpAny (model P w) B (pyNext (.ref i)) G R g := by
  obtain ⟨oi, ei, ci, di⟩ := id hi
  obtain ⟨ol, el, _, nl, dl⟩ := hl
  obtain ⟨hh, ox, vx, ex, dx, cx⟩ := hot
  unfold pyNext
  refine wpAny_bind (wpAny_attempt (wpAny_callSpecial?_slot (name := Str.ofString "__next__") hi.typeIs slot_tupleiter_next (wpAny_call_entry slot_tupleiter_next hi.typeIs entry_tupleiter_next ?_ (args_tupleiter_next _))))
  show wpAny _ _ (field (.ref i) 0 >>= _) _ _ g
  refine wpAny_bind (wpAny_field ei di (x := .ref l) rfl ?_)
  show wpAny _ _ (if (Value.ref l == Value.none) = true then _ else _) _ _ g
  rw [if_neg (show ¬ ((Value.ref l == Value.none) = true) from Bool.false_ne_true)]
  show wpAny _ _ (field (.ref i) 1 >>= _) _ _ g
  refine wpAny_bind (wpAny_field ei di (x := .int n 0) rfl ?_)
  show wpAny _ _ (seqItems? (.ref l) >>= _) _ _ g
  refine wpAny_bind (wpAny_seqItems el dl ?_)
  simp only [Int.toNat_natCast, hn]
  refine wpAny_bind (wpAny_rule (wpAny_bind (wpAny_setField ei di (by simp) ?_)))
  show wpAny _ _ (newExc (.type "StopIteration") [] >>= _) _ _ _
  refine wpAny_bind ?_
  simp only [newExc, newTuple]
  refine wpAny_bind (wpAny_newObj_type ?_ (by size_fits))
  refine wpAny_bind (m := firstArgMember _ _) (wpAny_of_eq (a := Value.none) (by first | rfl | (simp only [firstArgMember]; rfl)) ?_)
  refine wpAny_newObj_type ?_ (by size_fits)
  have e0 : ∀ {f : Obj → Obj} {p q : Obj}, (((g.heap.update i f).push p).push q).get? x = some ox := fun {f p q} => Heap.get?_push_of_some _ (Heap.get?_push_of_some _ ((Heap.get?_update_other _ _ hxi.symm).trans ex))
  refine raiseNew_hot ⟨hh, ox, vx, e0, dx, cx⟩ (Nat.ne_of_lt ?_) (Heap.get?_push_size _ rfl) rfl (by first | (simp; done) | (simp; omega) | (simp only [Array.size_append]; simp; omega)) ?_
  · exact Heap.lt_size (Heap.get?_push_of_some _ ((Heap.get?_update_other _ _ hxi.symm).trans ex))
  refine wpAny_bind (wpAny_isInstance (T := "StopIteration") (b := true) ⟨_, Heap.get?_update_self _ (Heap.get?_push_size _ rfl) rfl, rfl⟩ isSubtype_stop ?_)
  refine wpAny_pure (hG _ fun b u hb e => ?_)
  have u1 : ∀ {f : Obj → Obj}, (g.heap.update i f).get? b = some u := fun {f} => (Heap.get?_update_other _ _ (fun z => hb z.symm)).trans e
  exact (Heap.get?_update_other _ _ (Nat.ne_of_gt (Heap.lt_size (Heap.get?_push_of_some _ u1)))).trans (Heap.get?_push_of_some _ (Heap.get?_push_of_some _ u1))
theorem hot_lt {x : Addr} {h : Heap} (hot : HotAt B x h) : x < h.objs.size := by
  obtain ⟨_, _, _, ex, _⟩ := hot
  exact Heap.lt_size ex
theorem HotAt.keep {x : Addr} {h h' : Heap} (hot : HotAt B x h) (k : ∀ u, h.get? x = some u → h'.get? x = some u) : HotAt B x h' := by
  obtain ⟨hh, ox, vx, ex, dx, cx⟩ := hot
  exact ⟨hh, ox, vx, k _ ex, dx, cx⟩
/-- a tuple split -/
theorem split_hot {t x : Addr} {xs : Array Value} {G : List Value → Shared → Prop} (hot : HotAt B x g.heap) (ht : IsTup g.heap t xs)
    (hG : ∀ z, (∀ b u, g.heap.get? b = some u → z.get? b = some u) → G xs.toList { g with heap := z }) : wpAny (model P w) B (unpackItems (.ref t) xs.size none) G R g := by
  have tlt : t ≠ g.heap.objs.size := by
    obtain ⟨_, et, _⟩ := ht
    exact Nat.ne_of_lt (Heap.lt_size et)
  have xlt := Nat.ne_of_lt (hot_lt hot)
  unfold unpackItems
  refine wpAny_bind ?_
  unfold notIterableAtAll
  refine wpAny_bind (wpAny_specialOf ht.typeIs slot_tuple_iter.lookup (wpAny_pure ?_))
  simp only [Bool.false_eq_true, if_false]
  refine wpAny_bind (wpAny_holding (iter_tuple ht ?_))
  refine wpAny_bind (wpAny_holding (draw_tuple tlt xs.size 0 _ _ ⟨_, Heap.get?_push_size _ rfl, rfl, rfl⟩ (ht.push _) (by omega) fun z1 it1 sb1 => ?_))
  rw [show List.take xs.size (List.drop 0 xs.toList) = xs.toList by rw [List.drop_zero]; exact List.take_of_length_le (by simp), if_neg (by simp)]
  have k1 : ∀ b u, b ≠ g.heap.objs.size → g.heap.get? b = some u → z1.get? b = some u := fun b u hb e => sb1.extBut b u hb (Heap.get?_push_of_some _ e)
  refine wpAny_bind (wpAny_holding (tup_done (g := { g with heap := z1 }) (HotAt.keep hot fun u e => k1 _ u xlt e) xlt it1 ((ht.push _).extBut sb1.extBut tlt) (by simp) fun z2 k2 => ?_))
  simp only [Option.isSome_none, Bool.false_eq_true, if_false]
  exact wpAny_pure (hG z2 fun b u e => k2 b u (Nat.ne_of_lt (Heap.lt_size e)) (k1 b u (Nat.ne_of_lt (Heap.lt_size e)) e))
end
section
variable {X : Cx}
/-- a target of several names, the exception being handled -/
theorem pg_tupQ {es : List Expr} {k : Nat} {t : TGs} {n : Nat} {pos : Pos} (hc : L2H.HotC X) (h : PGs X es t) (hn : (assignEach es X.env).length = n) (hst : (assignEach es X.env).findIdx? (·.1) = none) : PG X (.Tuple es k pos) (gTup X.K n t) := by
  refine ⟨fun pins s σ H v u Q I r ⟨a, vs, e1, e2, e3, q⟩ => ?_⟩
  subst e1
  cases r
  obtain ⟨its, rv, ht, hz⟩ := I.tuple e2
  obtain ⟨x, hot⟩ := hc.at I
  rw [assign_Tuple]
  refine wpAny_bind (wpAny_standAt ?_)
  unfold unpack
  have hsz : (assignEach es X.env).length = its.toArray.size := by have := rv.length; simp; omega
  rw [hsz, hst]
  refine wpAny_bind (wpAny_holding (split_hot hot ht fun z hx => ?_))
  have I1 : Inv X pins σ H { s with heap := z } := I.kept (t' := s.toks) fun b o e => hx b o e
  exact h.run pins _ σ H vs _ Q I1 (by simpa using rv) q
open L2H in
theorem turn_lstQ {P : Program} {w : World} {K : PySem.W.Frag} {tg : Expr} (a i : Addr) : TurnH P w K tg (Itl K a) [i] i (fun n h => h.IsListIter i a n) where
  mem := List.mem_singleton.mpr rfl
  obj := fun n h st b hb => by
    rw [List.mem_singleton.mp hb]
    obtain ⟨o, e, _, d⟩ := st
    exact ⟨o, e, fun v z => (by rw [d] at z; cases z)⟩
  keep := fun n h h' st k => st.at fun o e => k i (List.mem_singleton.mpr rfl) o e
  item := fun X e1 e2 e3 _ n pins s σ H R I hf st hg => by
    subst e1 e2 e3
    obtain ⟨xs, x, hq, hx⟩ := hg
    obtain ⟨its, rv, p, hz⟩ := I.list hq
    obtain ⟨u, hu, ru⟩ := rv.get hx
    obtain ⟨f0, f1, f2, f3, f4, f5⟩ := hf i (List.mem_singleton.mpr rfl)
    refine wpAny_pyNext_list_item st p.isList (x := u) (by simpa using hu) fun z st' sb => ⟨u, rfl, ?_⟩
    have J : Inv X pins σ H { s with heap := z } := I.turned (t' := s.toks) (fun b o hb e => (sb.2 b hb).trans e) f0 f1 f3 f4 f5
    obtain ⟨o, e, c, d⟩ := id st'
    exact go_of (s := { s with heap := z }) e c d (by decide) ⟨x, H, J, ru, ⟨rfl, fun ys hy => (by rw [I.list_inj hy hq]; exact hx)⟩, st', fun b hb => (hf b hb).1⟩
  done := fun X e1 e2 e3 hc n pins s σ H R I hf st hg => by
    subst e1 e2 e3
    obtain ⟨xs, hq, hx⟩ := hg
    obtain ⟨its, rv, p, hz⟩ := I.list hq
    obtain ⟨f0, f1, f2, f3, f4, f5⟩ := hf i (List.mem_singleton.mpr rfl)
    have hl := rv.length
    obtain ⟨p0, ⟨hh, v1, d1, c1⟩, hp⟩ := hc
    have e0 := (I.pin p0 (List.mem_append_left _ hp)).1
    refine lst_done (x := p0.1) ⟨hh, p0.2, v1, e0, d1, c1⟩ (f5 p0 (List.mem_append_left _ hp)) st p.isList (by simp; omega) fun z k => ⟨rfl, I.turned (t' := s.toks) (fun b o hb e => k b o hb e) f0 f1 f3 f4 f5⟩
  self := fun _ _ _ _ _ st h => wpAny_pyIter_listiter st h
open L2H in
theorem turn_tupQ {P : Program} {w : World} {K : PySem.W.Frag} {tg : Expr} (a i : Addr) : TurnH P w K tg (Itt K a) [i] i (fun n h => h.IsTupleIter i a n) where
  mem := List.mem_singleton.mpr rfl
  obj := fun n h st b hb => by
    rw [List.mem_singleton.mp hb]
    obtain ⟨o, e, _, d⟩ := st
    exact ⟨o, e, fun v z => (by rw [d] at z; cases z)⟩
  keep := fun n h h' st k => st.at fun o e => k i (List.mem_singleton.mpr rfl) o e
  item := fun X e1 e2 e3 _ n pins s σ H R I hf st hg => by
    subst e1 e2 e3
    obtain ⟨xs, x, hq, hx⟩ := hg
    obtain ⟨its, rv, p, hz⟩ := I.tuple hq
    obtain ⟨u, hu, ru⟩ := rv.get hx
    obtain ⟨f0, f1, f2, f3, f4, f5⟩ := hf i (List.mem_singleton.mpr rfl)
    refine wpAny_pyNext_tuple_item st (show s.heap.IsTuple a its.toArray from p) (x := u) (by simpa using hu) fun z st' sb => ⟨u, rfl, ?_⟩
    have J : Inv X pins σ H { s with heap := z } := I.turned (t' := s.toks) (fun b o hb e => (sb.2 b hb).trans e) f0 f1 f3 f4 f5
    obtain ⟨o, e, c, d⟩ := id st'
    exact go_of (s := { s with heap := z }) e c d (by decide) ⟨x, H, J, ru, ⟨rfl, fun ys hy => (by rw [I.tuple_inj hy hq]; exact hx)⟩, st', fun b hb => (hf b hb).1⟩
  done := fun X e1 e2 e3 hc n pins s σ H R I hf st hg => by
    subst e1 e2 e3
    obtain ⟨xs, hq, hx⟩ := hg
    obtain ⟨its, rv, p, hz⟩ := I.tuple hq
    obtain ⟨f0, f1, f2, f3, f4, f5⟩ := hf i (List.mem_singleton.mpr rfl)
    have hl := rv.length
    obtain ⟨p0, ⟨hh, v1, d1, c1⟩, hp⟩ := hc
    have e0 := (I.pin p0 (List.mem_append_left _ hp)).1
    exact tup_done (x := p0.1) ⟨hh, p0.2, v1, e0, d1, c1⟩ (f5 p0 (List.mem_append_left _ hp)) st p (by simp; omega) fun z k => ⟨rfl, I.turned (t' := s.toks) (fun b o hb e => k b o hb e) f0 f1 f3 f4 f5⟩
  self := fun _ _ _ _ _ st h => wpAny_pyIter_tupleiter st h
open L2H in
theorem pi_lstQ {tg e : Expr} {te : TE} (he : PE X e te) : PIH X tg e (iList X.K te) := ⟨fun pins s σ H R I h => by
  refine thn (he.run pins s σ H _ I h) fun v s1 ⟨x, H1, J, rx, a, ex, ⟨xs, hq⟩, q⟩ => ?_
  subst ex
  cases rx
  obtain ⟨its, rv, p, hz⟩ := J.list hq
  refine wpAny_pyIter_list p.isList ⟨s1.heap.objs.size, [s1.heap.objs.size], _, _, H1, rfl, J.kept (t' := s1.toks) fun b o e => Heap.get?_push_of_some _ e, turn_lstQ a _, ⟨_, Heap.get?_push_size _ rfl, rfl, rfl⟩, fun b hb => ?_, q⟩
  rw [List.mem_singleton.mp hb]
  exact J.fpOk (Nat.le_refl _) (J.hok.fresh (Nat.le_refl _))⟩
end
/-- the block's context bears what is pinned -/
abbrev blkQ (X : Cx) (s : Shared) (H : Hp) (scope : Scope) (cenv : Env) (fp : List Addr) : Cx := { X.blk s H scope cenv fp with pn := X.pn }
section
variable {X : Cx} {pins : List (Addr × Obj)} {σ : L2.St} {H : Hp} {s : Shared}
theorem inv_pn {Y : Cx} {ps pq : List (Addr × Obj)} (I : Inv Y ps σ H s) (h : ∀ p ∈ pq, s.heap.get? p.1 = some p.2 ∧ H p.1 = none ∧ p.1 ≠ Y.env.locals ∧ p.1 ∉ Y.fs ∧ ∀ v, p.2.data ≠ .cell v) : Inv { Y with pn := pq } [] σ H s :=
  ⟨⟨I.ok.mod, I.ok.kind, I.ok.glob, I.ok.blt, I.ok.above, I.ok.inj, I.ok.has, I.ok.cab, I.ok.hd, I.ok.frames, I.ok.stk, I.ok.exf, I.ok.bs, I.ok.bsz, I.ok.noex, I.ok.exfs, I.ok.funs, I.ok.frf⟩, I.os, I.bare, I.base, I.loc, I.cell, I.free, I.freeC,
    fun p hp => h p (by simpa using hp), I.hok, I.len⟩
theorem blk_inQ {scope : Scope} {own : List (Str × Nat)} {fp : List Addr} (I : Inv X pins σ H s) (ok : BlkOk X.N X.env.scope scope own) (hN : X.N.Nodup) (hfp : ∀ b ∈ fp, FpOk X pins H b ∧ b < s.heap.objs.size) :
    Inv (blkQ X s H scope (compEnvC scope (cellsFrom (s.heap.objs.size + 1) scope.names (cloFrom X.env.cells scope.names [])) s.heap.objs.size X.env) fp) [] (wipe σ (own.map (·.2))) H { s with heap := pushCells (s.heap.push { cls := .type "dict", data := .dict #[] }) scope.names } :=
  inv_pn (block_start I ok hN hfp) fun p hp => by
    obtain ⟨e1, e2, e3, e4, e5⟩ := I.pin p (List.mem_append_left _ hp)
    refine ⟨pushCells_keeps _ _ _ _ (Heap.get?_push_of_some _ e1), e2, Nat.ne_of_lt (Heap.lt_size e1), fun z => ?_, e5⟩
    rcases List.mem_cons.mp (I.stkSub p.1 z) with q | q
    · exact e3 q
    · exact e4 q
open L2H in
/-- the list that is made, over a list that is walked -/
theorem pe_lcQ {elt tg iter : Expr} {ifs : List Expr} {scope : Scope} {own : List (Str × Nat)} {pos : Pos} {wi : TI} {g : TG} {tt : TT} {te : TE} (hc : HotC X) (hN : X.N.Nodup) (hi : PIH X tg iter wi) (ok : BlkOk X.N X.env.scope scope own)
    (hg : ∀ (s : Shared) (H : Hp) (C : Addr) (cl : List (Str × Addr)) (fp : List Addr), PG (blkQ X s H scope (compEnvC scope cl C X.env) fp) tg g)
    (ht : ∀ (s : Shared) (H : Hp) (C : Addr) (cl : List (Str × Addr)) (fp : List Addr), PTs (blkQ X s H scope (compEnvC scope cl C X.env) fp) ifs tt)
    (he : ∀ (s : Shared) (H : Hp) (C : Addr) (cl : List (Str × Addr)) (fp : List Addr), PE (blkQ X s H scope (compEnvC scope cl C X.env) fp) elt te) (hs : ∀ x, foldedSetIterable iter X.env x = pure x) :
    PE X (.ListComp elt [⟨tg, iter, ifs, 0⟩] scope pos) (tLc wi g tt te (own.map (·.2))) := ⟨fun pins s σ H Q I h => by
  have has : ∀ y ∈ scope.names, y.2 = .free → ∃ c, X.env.cells.lookup y.1 = some c := fun y hy e => (ok.free y hy e).elim (fun z => I.ok.has _ (.inl z)) fun z => I.ok.has _ (.inr z)
  rw [eval_ListComp]
  refine wpAny_comprehension_free (use := none) rfl hs (closure_ok has) ok.kind (fun y hy e => (by rw [ok.uniq y hy, e])) (thn (hi.run pins s σ H _ I h) fun lv s1 h1 => thn h1 fun iv s2 h2 => ?_)
  obtain ⟨it, fp, tn, J, G, ev, I2, T, t2, f2, q⟩ := h2
  subst ev
  refine wpAny_newObj_type (newEnv_comp ?_) (by show 0 ≤ sizeLine; decide)
  generalize eD : s2.heap.objs.size = D
  have nD : G D = none := I2.hok.fresh (by omega)
  obtain ⟨W, ⟨m0, w0⟩, turn⟩ := q D nD
  generalize e3 : ({ s2 with heap := s2.heap.push { cls := .type "list", data := .seq ([] : List Value).toArray } } : Shared) = s3
  have h3 : s3.heap = s2.heap.push { cls := .type "list", data := .seq ([] : List Value).toArray } := by rw [← e3]
  have I3 : Inv X pins σ (upd G D (.lst [])) s3 := by
    rw [← e3]
    refine I2.laid (t' := s2.toks) (fun b o e => Heap.get?_push_of_some _ e) (by omega) ⟨Nat.zero_le _, [], 0, .nil, ?_⟩
    rw [← eD]
    exact Heap.get?_push_size _ rfl
  have lt2 : ∀ b ∈ fp, b < s2.heap.objs.size := fun b hb => (T.obj _ _ t2 b hb).elim fun o e => Heap.lt_size e.1
  have f3 : ∀ b ∈ fp, FpOk X pins (upd G D (.lst [])) b ∧ b < s3.heap.objs.size := fun b hb => by
    have hlt := lt2 b hb
    refine ⟨⟨?_, (f2 b hb).2⟩, ?_⟩
    · rw [upd_ne (by rw [← eD]; exact Nat.ne_of_lt hlt)]; exact (f2 b hb).1
    · rw [h3, Heap.size_push]; exact Nat.lt_succ_of_lt hlt
  have t3 : tn 0 s3.heap := T.keep _ _ _ t2 fun b _ o e => by rw [h3]; exact Heap.get?_push_of_some _ e
  have I4 := blk_inQ I3 ok hN f3
  have pg := hg s3 (upd G D (.lst [])) s3.heap.objs.size (cellsFrom (s3.heap.objs.size + 1) scope.names (cloFrom X.env.cells scope.names [])) fp
  have pt := ht s3 (upd G D (.lst [])) s3.heap.objs.size (cellsFrom (s3.heap.objs.size + 1) scope.names (cloFrom X.env.cells scope.names [])) fp
  have pe := he s3 (upd G D (.lst [])) s3.heap.objs.size (cellsFrom (s3.heap.objs.size + 1) scope.names (cloFrom X.env.cells scope.names [])) fp
  show codeAny _ _ (.compStart (.ListComp elt [⟨tg, iter, ifs, 0⟩] scope pos) 0 (.ref it) (.ref D) (compEnvC scope (cellsFrom (s3.heap.objs.size + 1) scope.names (cloFrom X.env.cells scope.names [])) s3.heap.objs.size X.env))
    (compPost (model X.prog X.w) X.A X.xe none (fun v s' => ∃ w H', Inv X pins σ H' s' ∧ RelV w v ∧ Q w H') (.ref D) s3.heap.objs.size) { s3 with heap := pushCells (s3.heap.push { cls := .type "dict", data := .dict #[] }) scope.names }
  have nf : ∀ b ∈ fp, (upd G D (.lst [])) b = none := fun b hb => (f3 b hb).1.1
  generalize ece : compEnvC scope (cellsFrom (s3.heap.objs.size + 1) scope.names (cloFrom X.env.cells scope.names [])) s3.heap.objs.size X.env = ce at I4 pg pt pe ⊢
  have cL : ce.locals = s3.heap.objs.size := by rw [← ece]; rfl
  generalize eH3 : upd G D (.lst []) = H3 at I3 I4 pg pt pe w0 nf f3
  generalize e4 : ({ s3 with heap := pushCells (s3.heap.push { cls := .type "dict", data := .dict #[] }) scope.names } : Shared) = s4 at I4 ⊢
  have t4 : tn 0 s4.heap := T.keep _ _ _ t3 fun b _ o e => by rw [← e4]; exact pushCells_keeps _ _ _ _ (Heap.get?_push_of_some _ e)
  have hcB : HotC (blkQ X s3 H3 scope ce fp) := hc
  have fpB : ∀ {τ : L2.St} {K : Hp} {z : Shared}, Inv (blkQ X s3 H3 scope ce fp) [] τ K z → (∀ b ∈ fp, K b = none) → ∀ b ∈ fp, FpOk (blkQ X s3 H3 scope ce fp) [] K b := fun {τ K z} Iz hn b hb =>
    ⟨hn b hb, (Iz.ok.exf b hb).1, Iz.ok.exfs b hb, .inl hb, fun x c e => (Iz.ok.exf b hb).2 x c e, fun p hp => (f3 b hb).1.2.2.2.2.2 p (by
      rcases List.mem_append.mp hp with z | z
      · exact List.mem_append_left _ z
      · cases z)⟩
  have walk : codeAny (model X.prog X.w) X.A (.compLoop (.ListComp elt [⟨tg, iter, ifs, 0⟩] scope pos) 0 (.ref it) (.ref D) ce) (compPost (model X.prog X.w) X.A X.xe none (fun v s' => ∃ w H', Inv X pins σ H' s' ∧ RelV w v ∧ Q w H') (.ref D) s3.heap.objs.size) s4 := by
    refine compLoop_any (fun n z => ∃ i K, Inv (blkQ X s3 H3 scope ce fp) [] (wipe σ (own.map (·.2))) K z ∧ tn i z.heap ∧ (∀ b ∈ fp, K b = none) ∧ W i n K) ?_ m0 ⟨0, H3, I4, t4, nf, w0⟩
    rintro n s5 ⟨i, H5, I5, t5, n5, w5⟩
    rcases turn i n H5 w5 with ⟨halt, qq⟩ | ⟨go, Nx, hNx, step⟩
    · refine thnF (T.done (blkQ X s3 H3 scope ce fp) rfl rfl rfl hcB i [] s5 _ H5 (fun _ _ => False) I5 (fpB I5 n5) t5 halt) fun r s6 ⟨hr, I6⟩ => ?_
      subst hr
      have I7 : Inv X pins σ H5 s6 := I3.call' (ch := fp) I6.os I6.base I6.hok I6.bare fun b hb => ⟨(f3 b hb).1.2.2.2.1, (f3 b hb).1.2.1, (f3 b hb).1.2.2.2.2.1, (f3 b hb).1.2.2.2.2.2⟩
      have nC : H5 s3.heap.objs.size = none := by
        rw [← cL]
        exact I6.free
      obtain ⟨m, hn, _⟩ := I6.loc
      have hn : s6.heap.Ns ce.locals m := hn
      rw [cL] at hn
      obtain ⟨g0, g1, g2, g3, g4, g5⟩ := I3.fpOk (Nat.le_refl _) nC
      exact ⟨m, hn, fun h'' sb => ⟨.ref D, H5, I7.turned (t' := s6.toks) (fun b o hb e => (sb.2 b hb).trans e) g0 g1 g3 g4 g5, rfl, qq⟩⟩
    · refine thnF (T.item (blkQ X s3 H3 scope ce fp) rfl rfl rfl hcB i [] s5 _ H5 (fun _ _ => False) I5 (fpB I5 n5) t5 go) fun r s6 ⟨u, hr, h6⟩ => ?_
      subst hr
      refine thnF h6 fun _ s7 ⟨x, H7, I7, r7, y7, t7, n7⟩ => ?_
      have P7 := I7.pinned (fpB I7 n7) (T.obj _ _ t7)
      refine thnF (pg.run _ s7 _ H7 x u _ P7 r7 (step x H7 y7)) fun _ s8 ⟨τ, H8, I8, hw8, q8⟩ => ?_
      refine thnF (pt.run _ s8 τ H8 _ I8 q8) fun b s9 ⟨H9, I9, q9⟩ => ?_
      have next : ∀ {z : Shared} {K : Hp}, Inv (blkQ X s3 H3 scope ce fp) ([] ++ pinsAt fp s7.heap) τ K z → Nx K → ∃ m, m < n ∧ ∃ i K, Inv (blkQ X s3 H3 scope ce fp) [] (wipe σ (own.map (·.2))) K z ∧ tn i z.heap ∧ (∀ b ∈ fp, K b = none) ∧ W i m K := fun {z K} Iz nx => by
        obtain ⟨m', hm, w'⟩ := hNx K nx
        have pn7 : ∀ b ∈ fp, ∀ o, s7.heap.get? b = some o → z.heap.get? b = some o ∧ K b = none := fun b hb o e =>
          let y := Iz.pin (b, o) (List.mem_append_right _ (List.mem_append_right _ (mem_pinsAt hb e)))
          ⟨y.1, y.2.1⟩
        refine ⟨m', hm, i + 1, K, (Iz.unpinned (pins := [])).weak (by rw [wipe_length, ← wipe_length τ (own.map (·.2)), hw8, wipe_length]) (fun j v e => ?_), T.keep _ _ _ t7 fun b hb o e => (pn7 b hb o e).1, fun b hb => ?_, w'⟩
        · rw [← hw8] at e
          exact (wipe_some e).1
        · obtain ⟨o, e, _⟩ := T.obj _ _ t7 b hb
          exact (pn7 b hb o e).2
      cases b with
      | false =>
        simp only [Bool.false_eq_true, if_false] at q9 ⊢
        exact next I9 q9
      | true =>
        simp only [if_true] at q9 ⊢
        refine thnF (pe.run _ s9 τ H9 _ I9 q9) fun z s10 ⟨yv, H10, I10, r10, acc, hD10, hz10, nx⟩ => ?_
        exact app_ok (X := blkQ X s3 H3 scope ce fp) I10 hD10 hz10 r10 fun s11 I11 => next I11 nx
  exact codeAny_compStart_list walk (T.self X.A 0 _ _ _ t4 walk)⟩
end
end PF
end
section
set_option Elab.async false
set_option autoImplicit false
set_option linter.all false
set_option maxRecDepth 100000
namespace PF
open PySem PySem.Spec PyProof.Rows L2

def Sub (F H : Hp) : Prop := ∀ a o, F a = some o → H a = some o
theorem Sub.refl (F : Hp) : Sub F F := fun _ _ h => h
theorem Sub.trans {F G H : Hp} (x : Sub F G) (y : Sub G H) : Sub F H := fun a o h => y a o (x a o h)
theorem Rd.sub {F H : Hp} {a : Addr} {o : HO} (s : Sub F H) (h : Rd F a o) : Rd H a o := h.elim (fun e => .inl (s _ _ e)) fun ⟨ob, e⟩ => .inr ⟨ob, s _ _ e⟩
theorem SqL.sub {K : PySem.W.Frag} {F H : Hp} {a : Addr} {xs : List V} (s : Sub F H) (h : SqL K F a xs) : SqL K H a xs := h.elim (fun e => .inl (Rd.sub s e)) .inr
theorem SqT.sub {K : PySem.W.Frag} {F H : Hp} {a : Addr} {xs : List V} (s : Sub F H) (h : SqT K F a xs) : SqT K H a xs := h.elim (fun e => .inl (Rd.sub s e)) .inr

/-- the defs' addresses; the tables of those that make lambdas; the exceptions' classes -/
structure FA where
  f : Nat → Option Addr
  tabs : List (Addr × Str) := []
  cls : Nat → Option Addr := fun _ => none
instance : CoeFun FA fun _ => Nat → Option Addr := ⟨FA.f⟩

mutual
inductive Rep (K : PySem.W.Frag) (fa : FA) (F : Hp) : V → U → Prop
  | non : Rep K fa F .non .non
  | bl (b : Bool) : Rep K fa F (.bl b) (.bl b)
  | int (i : Int) : Rep K fa F (.int i) (.int i)
  | str (x : Str) : Rep K fa F (.str x) (.str x)
  | lst {a : Addr} {xs : List V} {us : List U} : F a = some (.lst xs) → RepAll K fa F xs us → Rep K fa F (.ref a) (.lst us)
  | scr {a : Addr} {xs : List V} {us : List U} : SqL K F a xs → RepAll K fa F xs us → Rep K fa F (.ref a) (.scr us)
  | tup {a : Addr} {xs : List V} {us : List U} : SqT K F a xs → RepAll K fa F xs us → Rep K fa F (.ref a) (.tup us)
  | dic {a : Addr} {xs : List (Key × V)} {us : List (Key × U)} : F a = some (.dK xs) → RepKV K fa F xs us → Rep K fa F (.ref a) (.dic us)
  | fn {a : Addr} {i : Nat} : fa i = some a → Rep K fa F (.ref a) (.fn i)
inductive RepAll (K : PySem.W.Frag) (fa : FA) (F : Hp) : List V → List U → Prop
  | nil : RepAll K fa F [] []
  | cons {v : V} {vs : List V} {u : U} {us : List U} : Rep K fa F v u → RepAll K fa F vs us → RepAll K fa F (v :: vs) (u :: us)
inductive RepKV (K : PySem.W.Frag) (fa : FA) (F : Hp) : List (Key × V) → List (Key × U) → Prop
  | nil : RepKV K fa F [] []
  | cons {k : Key} {v : V} {vs : List (Key × V)} {u : U} {us : List (Key × U)} : Rep K fa F v u → RepKV K fa F vs us → RepKV K fa F ((k, v) :: vs) ((k, u) :: us)
end
section
variable {K : PySem.W.Frag} {fa : FA} {F F' H H' : Hp}
mutual
theorem Rep.sub (s : Sub F F') : ∀ {v : V} {u : U}, Rep K fa F v u → Rep K fa F' v u
  | _, _, .non => .non
  | _, _, .bl b => .bl b
  | _, _, .int i => .int i
  | _, _, .str x => .str x
  | _, _, .lst h r => .lst (s _ _ h) (RepAll.sub s r)
  | _, _, .scr h r => .scr (SqL.sub s h) (RepAll.sub s r)
  | _, _, .tup h r => .tup (SqT.sub s h) (RepAll.sub s r)
  | _, _, .dic h r => .dic (s _ _ h) (RepKV.sub s r)
  | _, _, .fn h => .fn h
theorem RepAll.sub (s : Sub F F') : ∀ {v : List V} {u : List U}, RepAll K fa F v u → RepAll K fa F' v u
  | _, _, .nil => .nil
  | _, _, .cons h r => .cons (Rep.sub s h) (RepAll.sub s r)
theorem RepKV.sub (s : Sub F F') : ∀ {v : List (Key × V)} {u : List (Key × U)}, RepKV K fa F v u → RepKV K fa F' v u
  | _, _, .nil => .nil
  | _, _, .cons h r => .cons (Rep.sub s h) (RepKV.sub s r)
end
theorem RepAll.length : ∀ {v : List V} {u : List U}, RepAll K fa F v u → v.length = u.length
  | _, _, .nil => rfl
  | _, _, .cons _ r => congrArg (· + 1) (RepAll.length r)
theorem RepAll.get : ∀ {vs : List V} {us : List U} {i : Nat} {u : U}, RepAll K fa F vs us → us[i]? = some u → ∃ v, vs[i]? = some v ∧ Rep K fa F v u
  | _, _, _, _, .nil, e => by simp at e
  | _, _, 0, _, .cons r _, e => by simp at e; subst e; exact ⟨_, rfl, r⟩
  | _, _, i + 1, u, .cons _ t, e => by
    obtain ⟨v, h1, h2⟩ := RepAll.get (i := i) (u := u) t (by simpa using e)
    exact ⟨v, by simpa using h1, h2⟩
theorem RepAll.app : ∀ {xs ys : List V} {us ws : List U}, RepAll K fa F xs us → RepAll K fa F ys ws → RepAll K fa F (xs ++ ys) (us ++ ws)
  | _, _, _, _, .nil, s => s
  | _, _, _, _, .cons r t, s => .cons r (RepAll.app t s)
theorem RepAll.take : ∀ {xs : List V} {us : List U} (n : Nat), RepAll K fa F xs us → RepAll K fa F (xs.take n) (us.take n)
  | _, _, 0, _ => .nil
  | _, _, _ + 1, .nil => .nil
  | _, _, n + 1, .cons r t => .cons r (RepAll.take n t)
theorem RepAll.drop : ∀ {xs : List V} {us : List U} (n : Nat), RepAll K fa F xs us → RepAll K fa F (xs.drop n) (us.drop n)
  | _, _, 0, r => r
  | _, _, _ + 1, .nil => .nil
  | _, _, n + 1, .cons _ t => RepAll.drop n t
theorem RepAll.set {v : V} {u : U} (r : Rep K fa F v u) : ∀ {xs : List V} {us : List U} (i : Nat), RepAll K fa F xs us → RepAll K fa F (xs.set i v) (us.set i u)
  | _, _, _, .nil => .nil
  | _, _, 0, .cons _ t => .cons r t
  | _, _, i + 1, .cons q t => .cons q (RepAll.set r i t)
theorem RepAll.rep {xs : List V} {us : List U} (h : RepAll K fa F xs us) : ∀ k : Nat, RepAll K fa F (List.replicate k xs).flatten (List.replicate k us).flatten
  | 0 => .nil
  | k + 1 => by simp only [List.replicate_succ, List.flatten_cons]; exact h.app (RepAll.rep h k)
theorem RepAll.ints : ∀ {xs : List V} {us : List U} {ns : List Int}, RepAll K fa F xs us → U.ints us = some ns → xs = ns.map V.int
  | _, _, ns, .nil, e => by simp [U.ints] at e; subst e; rfl
  | _, _, ns, .cons (u := u) (us := us) r t, e => by
    cases r <;> try (simp [U.ints] at e; done)
    rename_i i
    simp only [U.ints] at e
    cases q : U.ints us with
    | none => rw [q] at e; cases e
    | some ms =>
      rw [q] at e
      cases e
      rw [RepAll.ints t q]
      rfl
theorem RepAll.of_ints : ∀ ns : List Int, RepAll K fa F (ns.map V.int) (ns.map U.int)
  | [] => .nil
  | n :: r => .cons (.int n) (RepAll.of_ints r)
theorem RepAll.bls : ∀ {xs : List V} {us : List U} {ns : List Bool}, RepAll K fa F xs us → U.bls us = some ns → xs = ns.map V.bl
  | _, _, ns, .nil, e => by simp [U.bls] at e; subst e; rfl
  | _, _, ns, .cons (u := u) (us := us) r t, e => by
    cases r <;> try (simp [U.bls] at e; done)
    rename_i i
    simp only [U.bls] at e
    cases q : U.bls us with
    | none => rw [q] at e; cases e
    | some ms =>
      rw [q] at e
      cases e
      rw [RepAll.bls t q]
      rfl

/-- a container's object and what it holds -/
inductive Hold (K : PySem.W.Frag) (fa : FA) (F : Hp) : HO → U → Prop
  | lst {xs : List V} {us : List U} : RepAll K fa F xs us → Hold K fa F (.lst xs) (.lst us)
  | dic {xs : List (Key × V)} {us : List (Key × U)} : RepKV K fa F xs us → Hold K fa F (.dK xs) (.dic us)
theorem Hold.sub (s : Sub F F') {o : HO} {u : U} (h : Hold K fa F o u) : Hold K fa F' o u := by
  cases h with
  | lst r => exact .lst (r.sub s)
  | dic r => exact .dic (r.sub s)
theorem Hold.nt {o : HO} {u : U} (h : Hold K fa F o u) : ∀ ps, o ≠ .tbl ps := fun ps e => by
  subst e
  cases h
theorem Hold.rep {a : Addr} {o : HO} {u : U} (h : Hold K fa F o u) (e : F a = some o) : Rep K fa F (.ref a) u := by
  cases h with
  | lst r => exact .lst e r
  | dic r => exact .dic e r
/-- readable now -/
def BRep (K : PySem.W.Frag) (fa : FA) (F H : Hp) (v : V) (u : U) : Prop := Rep K fa F v u ∨ ∃ a o, v = .ref a ∧ H a = some o ∧ Hold K fa F o u

def SlotOk (K : PySem.W.Frag) (fa : FA) (n : Nat) (F H : Hp) (σ : L2.St) (env : En) (i : Nat) : Slot → Prop
  | .emp => True
  | .val u => ∃ v, σ[i]? = some (some v) ∧ Rep K fa F v u
  | .own u _ => ∃ a o, σ[i]? = some (some (.ref a)) ∧ H a = some o ∧ Hold K fa F o u ∧ F a = none
  | .bor j => (j < n ∧ n ≤ i) ∧ ∃ v, σ[i]? = some (some v) ∧ σ[j]? = some (some v)

def Own (σ : L2.St) (env : En) (a : Addr) : Prop := ∃ (i : Nat) (u : U) (p : Bool), env[i]? = some (.own u p) ∧ σ[i]? = some (some (.ref a))

structure Sim (K : PySem.W.Frag) (fa : FA) (n : Nat) (F H : Hp) (σ : L2.St) (env : En) : Prop where
  len : σ.length = env.length
  fr : Sub F H
  slot : ∀ (i : Nat) (s : Slot), env[i]? = some s → SlotOk K fa n F H σ env i s
  inj : ∀ (i j : Nat) (a : Addr) (u u' : U) (p p' : Bool), env[i]? = some (.own u p) → env[j]? = some (.own u' p') → σ[i]? = some (some (.ref a)) → σ[j]? = some (some (.ref a)) → i = j
  tab : LamX.Tabs fa.tabs H
  fnt : ∀ (a : Addr) (ps : Array Value), F a ≠ some (.tbl ps)

/-- no object of the program's: nothing, or a table of code objects -/
def Nob (H : Hp) (a : Addr) : Prop := H a = none ∨ ∃ ps : Array Value, H a = some (.tbl ps)
theorem Nob.no {H : Hp} {a : Addr} {o : HO} (z : Nob H a) (h : H a = some o) (n : ∀ ps, o ≠ .tbl ps) : False := by
  rcases z with z | ⟨ps, z⟩
  · rw [h] at z; cases z
  · rw [h] at z; exact n ps (Option.some.inj z)
structure Stp (F H : Hp) (σ : L2.St) (env : En) (F' H' : Hp) (σ' : L2.St) (env' : En) : Prop where
  ext : Sub F F'
  keep : ∀ a o, H a = some o → ¬ Own σ env a → (∀ ps, o ≠ .tbl ps) → H' a = some o
  sub : ∀ a, Own σ' env' a → Own σ env a ∨ Nob H a
  new : ∀ a o, F' a = some o → F a = some o ∨ Own σ env a ∨ Nob H a
  pin : ∀ (i : Nat) (u : U), env[i]? = some (.own u true) → σ'[i]? = σ[i]? ∧ ∃ u', env'[i]? = some (.own u' true)

theorem Stp.refl (F H : Hp) (σ : L2.St) (env : En) : Stp F H σ env F H σ env :=
  ⟨.refl _, fun _ _ h _ _ => h, fun _ h => .inl h, fun _ _ h => .inl h, fun _ u h => ⟨rfl, u, h⟩⟩
theorem Stp.back {F H F' H' : Hp} {σ σ' : L2.St} {env env' : En} (s : Stp F H σ env F' H' σ' env') {x : Addr} (z : Nob H' x) : Own σ env x ∨ Nob H x := by
  cases h : H x with
  | none => exact .inr (.inl h)
  | some o =>
    by_cases c : ∃ ps, o = .tbl ps
    · obtain ⟨ps, rfl⟩ := c
      exact .inr (.inr ⟨ps, h⟩)
    · by_cases n : Own σ env x
      · exact .inl n
      · exact (z.no (s.keep x o h n fun ps e => c ⟨ps, e⟩) fun ps e => c ⟨ps, e⟩).elim
theorem Stp.trans {F0 H0 F1 H1 F2 H2 : Hp} {σ0 σ1 σ2 : L2.St} {e0 e1 e2 : En} (a : Stp F0 H0 σ0 e0 F1 H1 σ1 e1) (b : Stp F1 H1 σ1 e1 F2 H2 σ2 e2) : Stp F0 H0 σ0 e0 F2 H2 σ2 e2 where
  ext := a.ext.trans b.ext
  keep := fun x o h n ht => b.keep x o (a.keep x o h n ht) (fun q => (a.sub x q).elim n fun z => z.no h ht) ht
  sub := fun x q => (b.sub x q).elim (a.sub x) a.back
  new := fun x o q => by
    rcases b.new x o q with z | z | z
    · exact a.new x o z
    · exact .inr (a.sub x z)
    · exact .inr (a.back z)
  pin := fun i u h => by
    obtain ⟨h1, u1, h2⟩ := a.pin i u h
    obtain ⟨h3, u3, h4⟩ := b.pin i u1 h2
    exact ⟨h3.trans h1, u3, h4⟩
/-- the same places, seen longer -/
theorem Own.left {σ τ : L2.St} {env ws : En} {a : Addr} (hl : σ.length = env.length) (h : Own σ env a) : Own (σ ++ τ) (env ++ ws) a := by
  obtain ⟨i, u, p, h1, h2⟩ := h
  have hi : i < env.length := (List.getElem?_eq_some_iff.mp h1).1
  exact ⟨i, u, p, by rw [List.getElem?_append_left hi]; exact h1, by rw [List.getElem?_append_left (by omega)]; exact h2⟩
theorem Own.split {σ τ : L2.St} {env ws : En} {a : Addr} (hl : σ.length = env.length) (h : Own (σ ++ τ) (env ++ ws) a) : Own σ env a ∨ Own τ ws a := by
  obtain ⟨i, u, p, h1, h2⟩ := h
  by_cases hi : i < env.length
  · rw [List.getElem?_append_left hi] at h1
    rw [List.getElem?_append_left (by omega)] at h2
    exact .inl ⟨i, u, p, h1, h2⟩
  · rw [List.getElem?_append_right (by omega)] at h1
    rw [List.getElem?_append_right (by omega), hl] at h2
    exact .inr ⟨i - env.length, u, p, h1, h2⟩
theorem Own.right {σ τ : L2.St} {env ws : En} {a : Addr} (hl : σ.length = env.length) (h : Own τ ws a) : Own (σ ++ τ) (env ++ ws) a := by
  obtain ⟨i, u, p, h1, h2⟩ := h
  exact ⟨env.length + i, u, p, by rw [List.getElem?_append_right (by omega)]; simpa using h1, by rw [List.getElem?_append_right (by omega), hl]; simpa using h2⟩

variable {n : Nat} {σ σ' τ τ' : L2.St} {env env' ws ws' : En}
theorem getL {α : Type} {xs ys : List α} {i : Nat} (h : i < xs.length) : (xs ++ ys)[i]? = xs[i]? := List.getElem?_append_left h
theorem getR {α : Type} {xs ys : List α} {i : Nat} (h : xs.length ≤ i) : (xs ++ ys)[i]? = ys[i - xs.length]? := List.getElem?_append_right h
theorem ltOf {α : Type} {xs : List α} {i : Nat} {x : α} (h : xs[i]? = some x) : i < xs.length := (List.getElem?_eq_some_iff.mp h).1
/-- a place's word is about the values at it -/
theorem SlotOk.move {F F' H H' : Hp} {i i' : Nat} {s : Slot} (h : SlotOk K fa n F H σ env i s) (hf : Sub F F') (hi : σ'[i']? = σ[i]?)
    (hb : ∀ j, s = .bor j → σ'[j]? = σ[j]?) (ho : ∀ u p a o, s = .own u p → σ[i]? = some (some (.ref a)) → H a = some o → F a = none → H' a = some o ∧ F' a = none) (hii : n ≤ i → n ≤ i' := by omega) : SlotOk K fa n F' H' σ' env' i' s := by
  cases s with
  | emp => exact h
  | val u =>
    obtain ⟨v, h1, h2⟩ := h
    exact ⟨v, hi.trans h1, h2.sub hf⟩
  | own u p =>
    obtain ⟨a, o, h1, h2, h3, h4⟩ := h
    obtain ⟨q1, q2⟩ := ho u p a o rfl h1 h2 h4
    exact ⟨a, o, hi.trans h1, q1, h3.sub hf, q2⟩
  | bor j =>
    obtain ⟨hj, v, h1, h2⟩ := h
    exact ⟨⟨hj.1, hii hj.2⟩, v, hi.trans h1, (hb j rfl).trans h2⟩
/-- .. a loan being among more places -/
theorem SlotOk.up {n' : Nat} {F F' H H' : Hp} {i i' : Nat} {s : Slot} (h : SlotOk K fa n F H σ env i s) (hn : n ≤ n') (hii : n ≤ i → n' ≤ i') (hf : Sub F F') (hi : σ'[i']? = σ[i]?)
    (hb : ∀ j, s = .bor j → σ'[j]? = σ[j]?) (ho : ∀ u p a o, s = .own u p → σ[i]? = some (some (.ref a)) → H a = some o → F a = none → H' a = some o ∧ F' a = none) : SlotOk K fa n' F' H' σ' env' i' s := by
  have q : SlotOk K fa n F' H' σ' env' i' s := h.move hf hi hb ho (fun z => Nat.le_trans hn (hii z))
  cases s with
  | bor j => exact ⟨⟨Nat.lt_of_lt_of_le q.1.1 hn, hii h.1.2⟩, q.2⟩
  | emp => exact q
  | val u => exact q
  | own u p => exact q
/-- the first places alone -/
theorem Sim.head (h : Sim K fa n F H (σ ++ τ) (env ++ ws)) (hl : σ.length = env.length) (hn : n ≤ σ.length) : Sim K fa n F H σ env where
  len := hl
  fr := h.fr
  slot := fun i s e => by
    have hi := ltOf e
    exact (h.slot i s ((getL hi).trans e)).move (.refl _) (getL (by omega)).symm (fun j e2 => by
      subst e2
      obtain ⟨hj, _⟩ := h.slot i (.bor j) ((getL hi).trans e)
      exact (getL (by omega)).symm) fun _ _ _ _ _ _ a b => ⟨a, b⟩
  inj := fun i j a u u' p p' h1 h2 h3 h4 => by
    have hi := ltOf h1
    have hj := ltOf h2
    exact h.inj i j a u u' p p' ((getL hi).trans h1) ((getL hj).trans h2) ((getL (by omega)).trans h3) ((getL (by omega)).trans h4)
  tab := h.tab
  fnt := h.fnt
theorem Stp.head (h : Stp F H σ env F' H' (σ' ++ τ') (env' ++ ws')) (hl : σ'.length = env'.length) (hp : env.length ≤ env'.length) : Stp F H σ env F' H' σ' env' :=
  ⟨h.ext, h.keep, fun a q => h.sub a (q.left hl), h.new, fun i u q => by
    have hi := ltOf q
    obtain ⟨h1, u', h2⟩ := h.pin i u q
    rw [getL (by omega)] at h1
    rw [getL (by omega)] at h2
    exact ⟨h1, u', h2⟩⟩
/-- what was held on the side stays -/
theorem frame {F1 H1 F2 H2 : Hp} {τ2 : L2.St} {ws2 : En} (S1 : Sim K fa n F1 H1 (σ ++ τ) (env ++ ws)) (hn : σ.length = n) (he : env.length = n) (he' : env'.length = n)
    (S2 : Sim K fa n F2 H2 (σ ++ τ2) (env' ++ ws2)) (St : Stp F1 H1 σ env F2 H2 (σ ++ τ2) (env' ++ ws2)) :
    Sim K fa n F2 H2 (σ ++ (τ ++ τ2)) (env' ++ (ws ++ ws2)) ∧ Stp F1 H1 (σ ++ τ) (env ++ ws) F2 H2 (σ ++ (τ ++ τ2)) (env' ++ (ws ++ ws2)) := by
  have hτ : τ.length = ws.length := by have := S1.len; simp only [List.length_append] at this; omega
  have hτ2 : τ2.length = ws2.length := by have := S2.len; simp only [List.length_append] at this; omega
  -- an own one on the side is none of the def's, nor of the step's end
  have side : ∀ (i : Nat) (u : U) (p : Bool) (a : Addr), ws[i]? = some (.own u p) → τ[i]? = some (some (.ref a)) → ¬ Own σ env a := fun i u p a h1 h2 ⟨j, u', p', h3, h4⟩ => by
    have hj := ltOf h3
    have q := S1.inj (n + i) j a u u' p p' (by rw [getR (by omega), he, Nat.add_sub_cancel_left]; exact h1) (by rw [getL hj]; exact h3) (by rw [getR (by omega), hn, Nat.add_sub_cancel_left]; exact h2) (by rw [getL (by omega)]; exact h4)
    omega
  have sideO : ∀ (i : Nat) (u : U) (p : Bool), ws[i]? = some (.own u p) → ∃ a o, τ[i]? = some (some (.ref a)) ∧ H1 a = some o ∧ Hold K fa F1 o u ∧ F1 a = none := fun i u p h => by
    obtain ⟨a, o, h1, h2, h3, h4⟩ := S1.slot (n + i) (.own u p) (by rw [getR (by omega), he, Nat.add_sub_cancel_left]; exact h)
    rw [getR (by omega), hn, Nat.add_sub_cancel_left] at h1
    exact ⟨a, o, h1, h2, h3, h4⟩
  have side2 : ∀ (i : Nat) (u : U) (p : Bool) (a : Addr), ws[i]? = some (.own u p) → τ[i]? = some (some (.ref a)) → H2 a = H1 a ∧ F2 a = none ∧ ¬ Own (σ ++ τ2) (env' ++ ws2) a := fun i u p a h1 h2 => by
    obtain ⟨a', o, q1, q2, q3, q4⟩ := sideO i u p h1
    rw [h2] at q1
    cases q1
    have no := side i u p a h1 h2
    refine ⟨(St.keep a o q2 no q3.nt).trans q2.symm, ?_, fun z => ?_⟩
    · cases e : F2 a with
      | none => rfl
      | some o' =>
        rcases St.new a o' e with z | z | z
        · rw [q4] at z; cases z
        · exact absurd z no
        · exact (z.no q2 q3.nt).elim
    · rcases St.sub a z with z | z
      · exact no z
      · exact z.no q2 q3.nt
  have own3 : ∀ (i : Nat) (u : U) (p : Bool) (a : Addr), (env' ++ (ws ++ ws2))[i]? = some (.own u p) → (σ ++ (τ ++ τ2))[i]? = some (some (.ref a)) →
      (i < n ∧ (env' ++ ws2)[i]? = some (.own u p) ∧ (σ ++ τ2)[i]? = some (some (.ref a))) ∨ (n ≤ i ∧ i < n + ws.length ∧ ws[i - n]? = some (.own u p) ∧ τ[i - n]? = some (some (.ref a))) ∨
        (n + ws.length ≤ i ∧ (env' ++ ws2)[i - ws.length]? = some (.own u p) ∧ (σ ++ τ2)[i - ws.length]? = some (some (.ref a))) := fun i u p a h1 h2 => by
    by_cases c1 : i < n
    · rw [getL (by omega)] at h1 h2
      exact .inl ⟨c1, by rw [getL (by omega)]; exact h1, by rw [getL (by omega)]; exact h2⟩
    · by_cases c2 : i < n + ws.length
      · rw [getR (by omega), getL (by omega), he'] at h1
        rw [getR (by omega), getL (by omega), hn] at h2
        exact .inr (.inl ⟨by omega, c2, h1, h2⟩)
      · rw [getR (by omega), getR (by omega), he'] at h1
        rw [getR (by omega), getR (by omega), hn, hτ] at h2
        refine .inr (.inr ⟨by omega, ?_, ?_⟩)
        · rw [getR (by omega), he', show i - ws.length - n = i - n - ws.length by omega]; exact h1
        · rw [getR (by omega), hn, show i - ws.length - n = i - n - ws.length by omega]; exact h2
  refine ⟨⟨by simp only [List.length_append]; omega, S2.fr, fun i s e => ?_, fun i j a u u' p p' h1 h2 h3 h4 => ?_, S2.tab, S2.fnt⟩, ⟨St.ext, fun a o h no => St.keep a o h fun z => no (z.left (by omega)), fun a z => ?_, fun a o h => ?_, fun i u h => ?_⟩⟩
  · by_cases c1 : i < n
    · rw [getL (by omega)] at e
      refine (S2.slot i s (by rw [getL (by omega)]; exact e)).move (.refl _) (by rw [getL (by omega), getL (by omega)]) (fun j e2 => ?_) fun _ _ _ _ _ _ a b => ⟨a, b⟩
      subst e2
      obtain ⟨hj, _⟩ := S2.slot i (.bor j) (by rw [getL (by omega)]; exact e)
      rw [getL (by omega), getL (by omega)]
    · by_cases c2 : i < n + ws.length
      · rw [getR (by omega), getL (by omega), he'] at e
        refine (S1.slot i s (by rw [getR (by omega), he]; exact e)).move St.ext (by rw [getR (by omega), getL (by omega), getR (by omega)]) (fun j e2 => ?_) fun u p a o e2 h1 h2 h3 => ?_
        · subst e2
          obtain ⟨hj, _⟩ := S1.slot i (.bor j) (by rw [getR (by omega), he]; exact e)
          rw [getL (by omega), getL (by omega)]
        · subst e2
          rw [getR (by omega), hn] at h1
          obtain ⟨q1, q2, _⟩ := side2 _ u p a e h1
          exact ⟨q1.trans h2, q2⟩
      · rw [getR (by omega), getR (by omega), he'] at e
        refine (S2.slot (i - ws.length) s (by rw [getR (by omega), he', show i - ws.length - n = i - n - ws.length by omega]; exact e)).move (.refl _) (by rw [getR (by omega), getR (by omega), getR (by omega), hτ, show i - σ.length - ws.length = i - ws.length - σ.length by omega]) (fun j e2 => ?_) fun _ _ _ _ _ _ a b => ⟨a, b⟩
        subst e2
        obtain ⟨hj, _⟩ := S2.slot (i - ws.length) (.bor j) (by rw [getR (by omega), he', show i - ws.length - n = i - n - ws.length by omega]; exact e)
        rw [getL (by omega), getL (by omega)]
  · rcases own3 i u p a h1 h3 with ⟨x1, x2, x3⟩ | ⟨x1, x1', x2, x3⟩ | ⟨x1, x2, x3⟩
    · rcases own3 j u' p' a h2 h4 with ⟨y1, y2, y3⟩ | ⟨y1, y1', y2, y3⟩ | ⟨y1, y2, y3⟩
      · exact S2.inj i j a u u' p p' x2 y2 x3 y3
      · exact absurd ⟨i, u, p, x2, x3⟩ (side2 _ _ _ _ y2 y3).2.2
      · have := S2.inj i _ a u u' p p' x2 y2 x3 y3
        omega
    · rcases own3 j u' p' a h2 h4 with ⟨y1, y2, y3⟩ | ⟨y1, y1', y2, y3⟩ | ⟨y1, y2, y3⟩
      · exact absurd ⟨j, u', p', y2, y3⟩ (side2 _ _ _ _ x2 x3).2.2
      · have := S1.inj i j a u u' p p' (by rw [getR (by omega), he]; exact x2) (by rw [getR (by omega), he]; exact y2) (by rw [getR (by omega), hn]; exact x3) (by rw [getR (by omega), hn]; exact y3)
        exact this
      · exact absurd ⟨_, u', p', y2, y3⟩ (side2 _ _ _ _ x2 x3).2.2
    · rcases own3 j u' p' a h2 h4 with ⟨y1, y2, y3⟩ | ⟨y1, y1', y2, y3⟩ | ⟨y1, y2, y3⟩
      · have := S2.inj _ j a u u' p p' x2 y2 x3 y3
        omega
      · exact absurd ⟨_, u, p, x2, x3⟩ (side2 _ _ _ _ y2 y3).2.2
      · have := S2.inj _ _ a u u' p p' x2 y2 x3 y3
        omega
  · obtain ⟨i, u, p, h1, h2⟩ := z
    rcases own3 i u p a h1 h2 with ⟨x1, x2, x3⟩ | ⟨x1, x1', x2, x3⟩ | ⟨x1, x2, x3⟩
    · exact (St.sub a ⟨i, u, p, x2, x3⟩).imp (fun z => z.left (by omega)) id
    · exact .inl ⟨i, u, p, by rw [getR (by omega), he]; exact x2, by rw [getR (by omega), hn]; exact x3⟩
    · exact (St.sub a ⟨_, u, p, x2, x3⟩).imp (fun z => z.left (by omega)) id
  · exact (St.new a o h).imp id fun z => z.imp (fun z => z.left (by omega)) id
  · by_cases c1 : i < n
    · rw [getL (by omega)] at h
      obtain ⟨q1, u', q2⟩ := St.pin i u h
      rw [getL (by omega)] at q1 q2
      exact ⟨by rw [getL (by omega), getL (by omega)], u', by rw [getL (by omega)]; exact q2⟩
    · have hi := ltOf h
      rw [List.length_append] at hi
      rw [getR (by omega), he] at h
      refine ⟨by rw [getR (by omega), getL (by omega), getR (by omega)], u, ?_⟩
      rw [getR (by omega), getL (by omega), he']
      exact h
/-- one place's own container is changed by nobody from now on -/
theorem Sim.freeze {i : Nat} {u : U} (S : Sim K fa n F H σ env) (h : env[i]? = some (.own u false)) : ∃ F', Sim K fa n F' H σ (env.set i (.val u)) ∧ Stp F H σ env F' H σ (env.set i (.val u)) := by
  obtain ⟨a, o, h1, h2, h3, h4⟩ := S.slot i _ h
  have hs : Sub F (upd F a o) := fun b ob e => by rw [upd_ne (fun z => by subst z; rw [h4] at e; cases e)]; exact e
  have hi := ltOf h
  have own : ∀ b, Own σ (env.set i (.val u)) b → Own σ env b ∧ b ≠ a := fun b ⟨j, u', p', q1, q2⟩ => by
    by_cases c : i = j
    · subst c; rw [List.getElem?_set_self hi] at q1; cases q1
    · rw [List.getElem?_set_ne c] at q1
      exact ⟨⟨j, u', p', q1, q2⟩, fun z => c (by subst z; exact S.inj i j b u u' false p' h q1 h1 q2)⟩
  refine ⟨upd F a o, ⟨by rw [List.length_set]; exact S.len, fun b ob e => ?_, fun j s e => ?_, fun j k b u1 u2 p1 p2 q1 q2 q3 q4 => ?_, S.tab, fun b ps e => ?_⟩, ⟨hs, fun _ _ q _ _ => q, fun b q => .inl (own b q).1, fun b ob e => ?_, fun j u' e => ?_⟩⟩
  · by_cases c : b = a
    · subst c; rw [upd_same] at e; rw [h2]; exact e
    · rw [upd_ne c] at e; exact S.fr b ob e
  · by_cases c : i = j
    · subst c
      rw [List.getElem?_set_self hi] at e
      cases e
      exact ⟨.ref a, h1, (h3.sub hs).rep upd_same⟩
    · rw [List.getElem?_set_ne c] at e
      refine (S.slot j s e).move hs rfl (fun _ _ => rfl) fun u' p' b ob e2 q1 q2 q3 => ⟨q2, ?_⟩
      subst e2
      rw [upd_ne (fun z => c (by subst z; exact S.inj i j b u u' false p' h e h1 q1))]
      exact q3
  · by_cases c : i = j
    · subst c; rw [List.getElem?_set_self hi] at q1; cases q1
    · by_cases d : i = k
      · subst d; rw [List.getElem?_set_self hi] at q2; cases q2
      · rw [List.getElem?_set_ne c] at q1
        rw [List.getElem?_set_ne d] at q2
        exact S.inj j k b u1 u2 p1 p2 q1 q2 q3 q4
  · by_cases c : b = a
    · subst c; rw [upd_same] at e; exact h3.nt ps (Option.some.inj e)
    · rw [upd_ne c] at e; exact S.fnt b ps e
  · by_cases c : b = a
    · subst c; exact .inr (.inl ⟨i, u, false, h, h1⟩)
    · rw [upd_ne c] at e; exact .inl e
  · have c : i ≠ j := fun z => by subst z; rw [h] at e; cases e
    exact ⟨rfl, u', by rw [List.getElem?_set_ne c]; exact e⟩
end
end PF
end
section
set_option Elab.async false
set_option autoImplicit false
set_option linter.all false
set_option maxRecDepth 100000
namespace PF
open PySem PySem.Spec PyProof.Rows L2 LamX

/-- what an exception out of the lambda's frame comes to -/
def lamXe (X : Cx) (A : Around) (outer : List Env) (s : Shared) (H : Hp) (E : XK) (e : Env) : Value → Shared → Prop := fun u t =>
  wpAny (model X.prog X.w) (A.deeper e) (leaving e u) (fun _ => L2N.CX X.prog X.w outer H s E u) (fun u' => L2N.CX X.prog X.w outer H s E u') t
/-- the context of the lambda's body -/
def lamC (X : Cx) (A : Around) (outer : List Env) (s : Shared) (H : Hp) (E : XK) (sc : Scope) (f c : Addr) : Cx :=
  (lamCx X A outer s H E sc f c).wish (lamXe X A outer s H E (lamEnv X sc s.heap.objs.size f c))
/-- the context of the def that calls it -/
abbrev telC (X : Cx) (Ng : List Str) (x : Str) (sg : Scope) (g : Addr) (cdg : Value) (s : Shared) (H : Hp) (pn : List (Addr × Obj)) (xe : Value → Shared → Prop) : Cx :=
  (cxOf C8.CX0 X.prog X.w X.K X.mg X.base Ng x sg g cdg X.A X.stack s H C8.E0).tr pn xe
section
variable {X : Cx} {pins : List (Addr × Obj)} {σ : L2.St} {H : Hp} {s : Shared}
/-- the call of the lambda -/
theorem act {Ng : List Str} {x a : Str} {sg : Scope} {g f c : Addr} {cdg pm ctv : Value} {params : Arguments} {body : Expr} {sc : Scope} {k : Nat} {pn : List (Addr × Obj)} {xe : Value → Shared → Prop} {W : WX} {E : XK} {t : TE} {p1 p2 : Pos}
    (I : Inv X pins σ H s) (L : LamS X.env.scope sc) (ho : s.heap.get? f = some (PySem.W.kla_obj "<lambda>" (X.env.qual ++ "<lambda>") params body sc (cloFrom X.env.cells sc.names []) pm c ctv)) (hn : H f = none) (hs : f ∉ frs X.stack)
    (hb : bindArgs (PySem.W.kla_fn "<lambda>" (X.env.qual ++ "<lambda>") params body sc (cloFrom X.env.cells sc.names []) pm (.ref c) ctv) ⟨[], []⟩ = pure [])
    (tk : L2N.Takes (telC X Ng x sg g cdg s H pn xe) W) (hW : ∀ cls d σ' H', E cls d H' → W cls d σ' H') (hr : Room 0 (X.A.deeper (envOfC x sg s.heap.objs.size g cdg))) (hr2 : ∀ e2, Room k ((X.A.deeper (envOfC x sg s.heap.objs.size g cdg)).deeper e2))
    (hbody : ∀ (A : Around) (outer : List Env) (s1 : Shared) (H1 : Hp), Room k (A.deeper (lamEnv X sc s1.heap.objs.size f c)) → PE (lamC X A outer s1 H1 E sc f c) body t)
    (h0 : Ng[0]? = some a) (hv : Vis sg a) (hd : (a == ("__debug__" : Str)) = false := by decide) (hcd : (a == ("__classdict__" : Str)) = false := by decide) :
    PE (telC X Ng x sg g cdg s H pn xe) (.Call (.Name a p1) [] [] p2) (fun τ G Q => τ[0]? = some (some (.ref f)) ∧ G c = some (CodeO c (X.env.qual ++ "<lambda>")) ∧ t σ G Q) := by
  constructor
  intro pz sz τ G Q J ⟨q1, q2, q3⟩
  have named := (pe_var (X := telC X Ng x sg g cdg s H pn xe) (pos := p1) (i := 0) h0 hv hd hcd).run pz sz τ G (fun v G' => v = .ref f ∧ G' = G) J ⟨.ref f, q1, rfl, rfl⟩
  refine wpAny_Call_Name_kw (thn named fun u s1 hu => ?_)
  obtain ⟨v, G', J1, hv1, rfl, rfl⟩ := hu
  have hu2 : u = Value.ref f := hv1
  subst hu2
  have bs : Un (frs X.stack) [] H G' s.heap s1.heap := J1.base
  have o1 := bs.keep f _ ho hn hs (fun z => nomatch (show f ∈ ([] : List Addr) from z))
  obtain ⟨⟨oc, vs, t0, e1, e2, e3⟩, _, _⟩ := J1.hok c _ q2
  have run : codeAny (model X.prog X.w) (X.A.deeper (envOfC x sg s.heap.objs.size g cdg)) (.call (.ref f) ⟨[], []⟩) (CR (L2N.CX X.prog X.w) (envOfC x sg s.heap.objs.size g cdg :: X.stack) X.prog X.w G' s1 Q E) s1 := by
    refine PySem.W.kla_callFunE hr.depth o1 rfl L.co L.gen rfl ⟨c, oc, vs, t0, rfl, e1, e2, e3⟩ ?_
    rw [hb]
    refine wpAny_pure (wpAny_newFunctionEnv (fun y hy => (L.own y hy).2) (fun y hy => absurd hy (by simp)) (fun h1 hns hsb => ?_) L.kind)
    refine ⟨J1.nolimit.fresh _ hsb, ?_⟩
    have kp : ∀ b o, s1.heap.get? b = some o → h1.get? b = some o := fun b o e => hsb.extBut b o (Nat.ne_of_lt (Heap.lt_size e)) (Heap.get?_push_of_some _ e)
    have J2 := lam_start2 (f := f) (c' := c) (E := E) I L J1.env0 hr.hd bs hns kp (tk := s1.toks + ([] : List (Str × Value)).length)
    have B := hbody (X.A.deeper (envOfC x sg s.heap.objs.size g cdg)) (envOfC x sg s.heap.objs.size g cdg :: X.stack) s1 G' (hr2 _)
    have done := B.run [] _ _ G' Q (J2.wish _) q3
    refine PySem.W.kla_codeExpr (wpAny_mono done (fun v s3 h3 => ?_) fun u s3 h3 => h3)
    obtain ⟨w, G2, J3, r3, q⟩ := h3
    exact ⟨w, G2, J3.os, J3.bare, J3.base, J3.hok, r3, q⟩
  refine PySem.W.callWith_F0 ⟨_, _, _, _, o1⟩ (wpAny_call (codeAny_mono run fun r s2 hq => ?_))
  cases r with
  | error e => exact L2N.passes_call tk hW pz τ G' s1 e s2 J1 hq
  | ok fl =>
    cases fl with
    | ret u => exact J1.after hq
    | next => exact hq.elim
    | brk => exact hq.elim
    | cont => exact hq.elim
end
end PF
end
section
set_option Elab.async false
set_option autoImplicit false
set_option linter.all false
set_option maxRecDepth 100000
namespace PF
open PySem PySem.Spec PyProof.Rows L2

section
variable {K : PySem.W.Frag} {fa : FA} {n : Nat} {F F' H H' : Hp} {σ : L2.St} {env : En} {v : V} {w : Slot}
/-- what an operation leaves: its answer, new objects -/
structure OpPost (K : PySem.W.Frag) (fa : FA) (F H : Hp) (w : Slot) (v : V) (F' H' : Hp) : Prop where
  ext : Sub F F'
  fr : Sub F' H'
  keep : Sub H H'
  new : ∀ a o, F' a = some o → F a = some o ∨ H a = none
  rep : match w with
    | .val u => Rep K fa F' v u
    | .own u false => ∃ a o, v = .ref a ∧ H' a = some o ∧ Hold K fa F' o u ∧ F' a = none ∧ H a = none
    | _ => False
  nt : ∀ (a : Addr) (ps : Array Value), F' a = some (.tbl ps) → F a = some (.tbl ps)
theorem OpPost.val {u : U} (hf : Sub F H) (r : Rep K fa F v u) : OpPost K fa F H (.val u) v F H := ⟨.refl _, hf, .refl _, fun _ _ e => .inl e, r, fun _ _ e => e⟩
theorem none_of (hf : Sub F H) {p : Addr} (h : H p = none) : F p = none := by
  cases e : F p with
  | none => rfl
  | some o => rw [hf p o e] at h; cases h
theorem sub_new {o : HO} {p : Addr} (h : H p = none) : Sub H (upd H p o) := fun b ob e => by rw [upd_ne (ne_of_none e h)]; exact e
theorem OpPost.own {u : U} {o : HO} {p : Addr} (hf : Sub F H) (h : H p = none) (r : Hold K fa F o u) : OpPost K fa F H (.own u false) (.ref p) F (upd H p o) :=
  ⟨.refl _, hf.trans (sub_new h), sub_new h, fun _ _ e => .inl e, ⟨p, o, rfl, upd_same, r, none_of hf h, h⟩, fun _ _ e => e⟩
theorem OpPost.tup {us : List U} {xs : List V} {p : Addr} (hf : Sub F H) (h : H p = none) (r : RepAll K fa F xs us) : OpPost K fa F H (.val (.tup us)) (.ref p) (upd F p (.tup xs)) (upd H p (.tup xs)) := by
  have s : Sub F (upd F p (.tup xs)) := sub_new (none_of hf h)
  refine ⟨s, fun b o e => ?_, sub_new h, fun b o e => ?_, .tup (.inl (.inl upd_same)) (r.sub s), fun b ps e => ?_⟩
  · by_cases c : b = p
    · subst c; rw [upd_same] at e ⊢; exact e
    · rw [upd_ne c] at e ⊢; exact hf b o e
  · by_cases c : b = p
    · subst c; exact .inr h
    · rw [upd_ne c] at e; exact .inl e
  · by_cases c : b = p
    · subst c; rw [upd_same] at e; cases e
    · rw [upd_ne c] at e; exact e
/-- the answer on the side of the places -/
theorem OpPost.sim (P : OpPost K fa F H w v F' H') (S : Sim K fa n F H σ env) : Sim K fa n F' H' (σ ++ [some v]) (env ++ [w]) ∧ Stp F H σ env F' H' (σ ++ [some v]) (env ++ [w]) := by
  have hl := S.len
  have h1 : ∀ {α : Type} {x : α} {i : Nat} {y : α}, [x][i]? = some y → i = 0 ∧ y = x := fun {α x i y} e => by
    cases i with
    | zero => simp at e; exact ⟨rfl, e.symm⟩
    | succ i => simp at e
  have old : ∀ a, Own σ env a → ∃ o, H a = some o ∧ F a = none := fun a ⟨i, u, p, q1, q2⟩ => by
    obtain ⟨b, o, r1, r2, _, r4⟩ := S.slot i _ q1
    rw [q2] at r1
    cases r1
    exact ⟨o, r2, r4⟩
  have fresh : ∀ (u : U) (p : Bool) (a : Addr), w = .own u p → v = .ref a → H a = none := fun u p a e1 e2 => by
    have r := P.rep
    subst e1
    cases p with
    | true => exact r.elim
    | false =>
      obtain ⟨b, o, q1, _, _, _, q5⟩ := r
      rw [e2] at q1
      cases q1
      exact q5
  refine ⟨⟨by simp only [List.length_append, hl]; rfl, P.fr, fun i s e => ?_, fun i j a u u' p p' e1 e2 e3 e4 => ?_, S.tab.ext P.keep, fun a ps e => S.fnt a ps (P.nt a ps e)⟩, ⟨P.ext, fun a o e _ _ => P.keep a o e, fun a z => ?_, fun a o e => (P.new a o e).imp id fun z => .inr (.inl z), fun i u e => ?_⟩⟩
  · by_cases c : i < env.length
    · rw [getL c] at e
      refine (S.slot i s e).move P.ext (getL (by omega)) (fun j e2 => ?_) fun u p a o e2 q1 q2 q3 => ⟨P.keep a o q2, ?_⟩
      · subst e2
        obtain ⟨_, y, q1, q2⟩ := S.slot i _ e
        exact getL (ltOf q2)
      · cases f : F' a with
        | none => rfl
        | some ob =>
          rcases P.new a ob f with z | z
          · rw [q3] at z; cases z
          · rw [q2] at z; cases z
    · rw [getR (by omega)] at e
      obtain ⟨ei, es⟩ := h1 e
      have ei' : i = σ.length := by omega
      subst es ei'
      have ev : (σ ++ [some v])[σ.length]? = some (some v) := by rw [getR (Nat.le_refl _)]; simp
      have r := P.rep
      cases s with
      | emp => exact r.elim
      | bor j => exact r.elim
      | val u => exact ⟨v, ev, r⟩
      | own u p =>
        cases p with
        | true => exact r.elim
        | false =>
          obtain ⟨a, o, q1, q2, q3, q4, _⟩ := r
          exact ⟨a, o, by rw [ev, q1], q2, q3, q4⟩
  · by_cases c : i < env.length
    · rw [getL c] at e1
      rw [getL (by omega)] at e3
      by_cases d : j < env.length
      · rw [getL d] at e2
        rw [getL (by omega)] at e4
        exact S.inj i j a u u' p p' e1 e2 e3 e4
      · rw [getR (by omega)] at e2 e4
        obtain ⟨o, q1, _⟩ := old a ⟨i, u, p, e1, e3⟩
        rw [fresh u' p' a (h1 e2).2.symm (Option.some.inj (h1 e4).2).symm] at q1
        cases q1
    · rw [getR (by omega)] at e1 e3
      by_cases d : j < env.length
      · rw [getL d] at e2
        rw [getL (by omega)] at e4
        obtain ⟨o, q1, _⟩ := old a ⟨j, u', p', e2, e4⟩
        rw [fresh u p a (h1 e1).2.symm (Option.some.inj (h1 e3).2).symm] at q1
        cases q1
      · rw [getR (by omega)] at e2
        have a1 := (h1 e1).1
        have a2 := (h1 e2).1
        omega
  · rcases Own.split hl z with z | ⟨i, u, p, q1, q2⟩
    · exact .inl z
    · exact .inr (.inl (fresh u p a (h1 q1).2.symm (Option.some.inj (h1 q2).2).symm))
  · have hi := ltOf e
    exact ⟨getL (by omega), u, (getL hi).trans e⟩

theorem BRep.lst {us : List U} (hf : Sub F H) (h : BRep K fa F H v (.lst us)) : ∃ a xs, v = .ref a ∧ H a = some (.lst xs) ∧ RepAll K fa F xs us := by
  rcases h with h | ⟨a, o, rfl, h2, h3⟩
  · cases h with
    | lst e r => exact ⟨_, _, rfl, hf _ _ e, r⟩
  · cases h3 with
    | lst r => exact ⟨a, _, rfl, h2, r⟩
theorem BRep.dic {us : List (Key × U)} (hf : Sub F H) (h : BRep K fa F H v (.dic us)) : ∃ a xs, v = .ref a ∧ H a = some (.dK xs) ∧ RepKV K fa F xs us := by
  rcases h with h | ⟨a, o, rfl, h2, h3⟩
  · cases h with
    | dic e r => exact ⟨_, _, rfl, hf _ _ e, r⟩
  · cases h3 with
    | dic r => exact ⟨a, _, rfl, h2, r⟩
theorem BRep.tup {us : List U} (hf : Sub F H) (h : BRep K fa F H v (.tup us)) : ∃ a xs, v = .ref a ∧ SqT K H a xs ∧ RepAll K fa F xs us ∧ Rep K fa F v (.tup us) := by
  rcases h with h | ⟨a, o, rfl, h2, h3⟩
  · cases h with
    | tup e r => exact ⟨_, _, rfl, SqT.sub hf e, r, .tup e r⟩
  · cases h3
theorem BRep.scr {us : List U} (hf : Sub F H) (h : BRep K fa F H v (.scr us)) : ∃ a xs, v = .ref a ∧ SqL K H a xs ∧ RepAll K fa F xs us := by
  rcases h with h | ⟨a, o, rfl, h2, h3⟩
  · cases h with
    | scr e r => exact ⟨_, _, rfl, SqL.sub hf e, r⟩
  · cases h3
theorem BRep.int {i : Int} (h : BRep K fa F H v (.int i)) : v = .int i := by
  rcases h with h | ⟨a, o, rfl, h2, h3⟩
  · cases h; rfl
  · cases h3
theorem BRep.bl {i : Bool} (h : BRep K fa F H v (.bl i)) : v = .bl i := by
  rcases h with h | ⟨a, o, rfl, h2, h3⟩
  · cases h; rfl
  · cases h3
theorem BRep.str {i : Str} (h : BRep K fa F H v (.str i)) : v = .str i := by
  rcases h with h | ⟨a, o, rfl, h2, h3⟩
  · cases h; rfl
  · cases h3
theorem BRep.non (h : BRep K fa F H v .non) : v = .non := by
  rcases h with h | ⟨a, o, rfl, h2, h3⟩
  · cases h; rfl
  · cases h3
theorem BRep.sub {u : U} (hf : Sub F F') (hh : Sub H H') (h : BRep K fa F H v u) : BRep K fa F' H' v u := by
  rcases h with h | ⟨a, o, e, h2, h3⟩
  · exact .inl (h.sub hf)
  · exact .inr ⟨a, o, e, hh _ _ h2, h3.sub hf⟩
end

section
variable {X : Cx} {fa : FA}
/-- an operation by values, as PF has it -/
def rOp (K : PySem.W.Frag) (fa : FA) (g : U → U → Option Slot) : R2 := fun x y H Q => ∃ F u1 u2 w, Sub F H ∧ BRep K fa F H x u1 ∧ BRep K fa F H y u2 ∧ g u1 u2 = some w ∧ ∀ v F' H', OpPost K fa F H w v F' H' → Q v H'

theorem mulOk_ok {i j : Int} (h : mulOk i j = true) : IntMulOk i j := by
  unfold mulOk at h
  simp only [Bool.or_eq_true, Bool.and_eq_true, decide_eq_true_eq] at h
  rcases h with (h | h) | h
  · exact CMul.ok (.inr h)
  · exact CMul.ok (.inl h)
  · exact CMulW.ok h
theorem divOk_ok {i j : Int} (h : divOk j = true) : 0 < j ∧ (CDiv i j ∨ CDivW i j) := by
  unfold divOk at h
  simp only [Bool.or_eq_true, Bool.and_eq_true, decide_eq_true_eq] at h
  obtain ⟨h0, h | h⟩ := h
  · exact ⟨h0, .inl ⟨h0, h⟩⟩
  · exact ⟨h0, .inr ⟨h0, h⟩⟩
def opOf : BOp → Operator
  | .add => .Add | .sub => .Sub | .mul => .Mult | .fdiv => .FloorDiv | .mod => .Mod | .pow => .Pow
theorem op_ok (op : BOp) : OpR X (binaryOp (opOf op)) (rOp X.K fa (opF op)) := by
  intro pins s σ H x y v u Q I rx ry ⟨F, u1, u2, w, hf, b1, b2, e, q⟩
  unfold opF at e
  split at e
  · cases e
    cases b1.int; cases b2.int
    exact op_add pins s σ H _ _ _ _ Q I rx ry ⟨_, _, rfl, rfl, q _ _ _ (.val hf (.int _))⟩
  · split at e
    · cases e
      cases b1.str; cases b2.str
      exact op_add_str pins s σ H _ _ _ _ Q I rx ry ⟨_, _, rfl, rfl, by assumption, q _ _ _ (.val hf (.str _))⟩
    · cases e
  · split at e
    · cases e
      obtain ⟨a, xs, rfl, h1, r1⟩ := b1.lst hf
      obtain ⟨b, ys, rfl, h2, r2⟩ := b2.lst hf
      exact op_cat pins s σ H _ _ _ _ Q I rx ry ⟨a, b, xs, ys, rfl, rfl, h1, h2, by rw [r1.length, r2.length]; assumption, fun p hp => q _ _ _ (.own hf hp (.lst (r1.app r2)))⟩
    · cases e
  · split at e
    · cases e
      obtain ⟨a, xs, rfl, h1, r1, p1⟩ := b1.tup hf
      obtain ⟨b, ys, rfl, h2, r2, p2⟩ := b2.tup hf
      refine op_catA pins s σ H _ _ _ _ Q I rx ry ⟨a, b, xs, ys, rfl, rfl, h1, h2, by rw [r1.length, r2.length]; assumption, ?_⟩
      refine ⟨fun z => ?_, fun z1 z2 => ?_, fun z1 z2 p hp => q _ _ _ (.tup hf hp (r1.app r2))⟩
      · subst z
        cases r1
        exact q _ _ _ (.val hf p2)
      · subst z2
        cases r2
        rw [List.append_nil] at q
        exact q _ _ _ (.val hf p1)
    · cases e
  · cases e
    cases b1.int; cases b2.int
    exact op_sub pins s σ H _ _ _ _ Q I rx ry ⟨_, _, rfl, rfl, q _ _ _ (.val hf (.int _))⟩
  · split at e
    · cases e
      cases b1.int; cases b2.int
      obtain ⟨t, rfl⟩ := rx
      obtain ⟨t', rfl⟩ := ry
      exact mul_int ⟨.int _, H, I.tok _, ⟨_, rfl⟩, q _ _ _ (.val hf (.int _))⟩ (mulOk_ok (by assumption))
    · cases e
  · split at e
    · rename_i hc
      cases e
      cases b2.int
      obtain ⟨a, xs, rfl, h1, r1⟩ := b1.lst hf
      exact op_rep pins s σ H _ _ _ _ Q I rx ry ⟨a, _, xs, rfl, rfl, h1, hc.1, hc.2.1, by rw [r1.length]; exact hc.2.2, fun p hp => q _ _ _ (.own hf hp (.lst (r1.rep _)))⟩
    · cases e
  · split at e
    · rename_i hc
      cases e
      cases b1.int; cases b2.int
      rcases (divOk_ok hc).2 with h | h
      · exact op_fdiv pins s σ H _ _ _ _ Q I rx ry ⟨_, _, rfl, rfl, h, q _ _ _ (.val hf (.int _))⟩
      · exact op_fdivW pins s σ H _ _ _ _ Q I rx ry ⟨_, _, rfl, rfl, h, q _ _ _ (.val hf (.int _))⟩
    · cases e
  · split at e
    · cases e
      cases b1.int; cases b2.int
      exact op_mod pins s σ H _ _ _ _ Q I rx ry ⟨_, _, rfl, rfl, by assumption, q _ _ _ (.val hf (.int _))⟩
    · cases e
  · split at e
    · cases e
      cases b1.int; cases b2.int
      exact op_pow pins s σ H _ _ _ _ Q I rx ry ⟨_, _, rfl, rfl, by assumption, q _ _ _ (.val hf (.int _))⟩
    · cases e
  · cases e

mutual
def U.toD : U → PyData
  | .non => .none
  | .bl b => .bool b
  | .int i => .int i
  | .str x => .str x
  | .lst xs => .list (U.toDs xs)
  | .tup xs => .tuple (U.toDs xs)
  | .dic _ | .fn _ | .scr _ => .none
def U.toDs : List U → List PyData
  | [] => []
  | x :: r => U.toD x :: U.toDs r
end
mutual
theorem U.lay : ∀ u : U, u.dep ≤ 64 → u.toD.canLay0 = true ∧ u.toD.depth ≤ u.dep
  | .non, _ => by simp [U.toD, PyData.canLay0, PyData.depth]
  | .bl b, _ => by simp [U.toD, PyData.canLay0, PyData.depth]
  | .int i, _ => by simp [U.toD, PyData.canLay0, PyData.depth]
  | .str x, h => by
    simp only [U.dep] at h
    split at h
    · simp [U.toD, PyData.canLay0, PyData.depth, *]
    · omega
  | .lst xs, h => by
    simp only [U.dep] at h
    obtain ⟨h1, h2⟩ := U.lays xs (by omega)
    simp only [U.toD, PyData.canLay0, PyData.depth, U.dep]
    exact ⟨h1, by omega⟩
  | .tup xs, h => by
    simp only [U.dep] at h
    obtain ⟨h1, h2⟩ := U.lays xs (by omega)
    simp only [U.toD, PyData.canLay0, PyData.depth, U.dep]
    exact ⟨h1, by omega⟩
  | .dic _, h => by simp [U.dep] at h
  | .fn _, h => by simp [U.dep] at h
  | .scr _, h => by simp [U.dep] at h
theorem U.lays : ∀ us : List U, U.deps us ≤ 64 → PyData.canLayAll0 (U.toDs us) = true ∧ PyData.depthAll (U.toDs us) ≤ U.deps us
  | [], _ => by simp [U.toDs, PyData.canLayAll0, PyData.depthAll]
  | x :: r, h => by
    simp only [U.deps] at h ⊢
    obtain ⟨h1, h2⟩ := U.lay x (by omega)
    obtain ⟨h3, h4⟩ := U.lays r (by omega)
    simp only [U.toDs, PyData.canLayAll0, PyData.depthAll, h1, h3, Bool.and_self, true_and]
    omega
end
mutual
theorem U.eqv : ∀ a b : U, a.dep ≤ 64 → b.dep ≤ 64 → PyData.eqv a.toD b.toD = U.eq a b
  | .lst xs, .lst ys, h, k => by
    simp only [U.dep] at h k
    simp only [U.toD, PyData.eqv, U.eq]
    exact U.eqvs xs ys (by omega) (by omega)
  | .tup xs, .tup ys, h, k => by
    simp only [U.dep] at h k
    simp only [U.toD, PyData.eqv, U.eq]
    exact U.eqvs xs ys (by omega) (by omega)
  | .dic _, _, h, _ => by simp [U.dep] at h
  | .fn _, _, h, _ => by simp [U.dep] at h
  | .scr _, _, h, _ => by simp [U.dep] at h
  | _, .dic _, _, h => by simp [U.dep] at h
  | _, .fn _, _, h => by simp [U.dep] at h
  | _, .scr _, _, h => by simp [U.dep] at h
  | .non, .non, _, _ => by simp [U.toD, PyData.eqv, U.eq]
  | .non, .bl _, _, _ => by simp [U.toD, PyData.eqv, U.eq]
  | .non, .int _, _, _ => by simp [U.toD, PyData.eqv, U.eq]
  | .non, .str _, _, _ => by simp [U.toD, PyData.eqv, U.eq]
  | .non, .lst _, _, _ => by simp [U.toD, PyData.eqv, U.eq]
  | .non, .tup _, _, _ => by simp [U.toD, PyData.eqv, U.eq]
  | .bl _, .non, _, _ => by simp [U.toD, PyData.eqv, U.eq]
  | .bl _, .bl _, _, _ => by simp [U.toD, PyData.eqv, U.eq]
  | .bl _, .int _, _, _ => by simp [U.toD, PyData.eqv, U.eq]
  | .bl _, .str _, _, _ => by simp [U.toD, PyData.eqv, U.eq]
  | .bl _, .lst _, _, _ => by simp [U.toD, PyData.eqv, U.eq]
  | .bl _, .tup _, _, _ => by simp [U.toD, PyData.eqv, U.eq]
  | .int _, .non, _, _ => by simp [U.toD, PyData.eqv, U.eq]
  | .int _, .bl _, _, _ => by simp [U.toD, PyData.eqv, U.eq]
  | .int _, .int _, _, _ => by simp [U.toD, PyData.eqv, U.eq]
  | .int _, .str _, _, _ => by simp [U.toD, PyData.eqv, U.eq]
  | .int _, .lst _, _, _ => by simp [U.toD, PyData.eqv, U.eq]
  | .int _, .tup _, _, _ => by simp [U.toD, PyData.eqv, U.eq]
  | .str _, .non, _, _ => by simp [U.toD, PyData.eqv, U.eq]
  | .str _, .bl _, _, _ => by simp [U.toD, PyData.eqv, U.eq]
  | .str _, .int _, _, _ => by simp [U.toD, PyData.eqv, U.eq]
  | .str _, .str _, _, _ => by simp [U.toD, PyData.eqv, U.eq]
  | .str _, .lst _, _, _ => by simp [U.toD, PyData.eqv, U.eq]
  | .str _, .tup _, _, _ => by simp [U.toD, PyData.eqv, U.eq]
  | .lst _, .non, _, _ => by simp [U.toD, PyData.eqv, U.eq]
  | .lst _, .bl _, _, _ => by simp [U.toD, PyData.eqv, U.eq]
  | .lst _, .int _, _, _ => by simp [U.toD, PyData.eqv, U.eq]
  | .lst _, .str _, _, _ => by simp [U.toD, PyData.eqv, U.eq]
  | .lst _, .tup _, _, _ => by simp [U.toD, PyData.eqv, U.eq]
  | .tup _, .non, _, _ => by simp [U.toD, PyData.eqv, U.eq]
  | .tup _, .bl _, _, _ => by simp [U.toD, PyData.eqv, U.eq]
  | .tup _, .int _, _, _ => by simp [U.toD, PyData.eqv, U.eq]
  | .tup _, .str _, _, _ => by simp [U.toD, PyData.eqv, U.eq]
  | .tup _, .lst _, _, _ => by simp [U.toD, PyData.eqv, U.eq]
theorem U.eqvs : ∀ a b : List U, U.deps a ≤ 64 → U.deps b ≤ 64 → PyData.eqvAll (U.toDs a) (U.toDs b) = U.eqs a b
  | [], [], _, _ => by simp [U.toDs, PyData.eqvAll, U.eqs]
  | [], _ :: _, _, _ => by simp [U.toDs, PyData.eqvAll, U.eqs]
  | _ :: _, [], _, _ => by simp [U.toDs, PyData.eqvAll, U.eqs]
  | x :: xs, y :: ys, h, k => by
    simp only [U.deps] at h k
    simp only [U.toDs, PyData.eqvAll, U.eqs, U.eqv x y (by omega) (by omega), U.eqvs xs ys (by omega) (by omega)]
end
theorem U.shaped {u : U} (h : u.data = true) : SeqAt.shaped u.toD = true := by
  have h : u.dep ≤ 64 := of_decide_eq_true h
  obtain ⟨h1, h2⟩ := U.lay u h
  unfold SeqAt.shaped
  rw [h1, Bool.true_and, decide_eq_true_eq]
  omega
mutual
theorem Rep.dp {K : PySem.W.Frag} {F H : Hp} (hf : Sub F H) : ∀ {u : U} {v : V}, u.dep ≤ 64 → Rep K fa F v u → Dp K H v u.toD
  | .non, _, _, r => by cases r; exact .non
  | .bl _, _, _, r => by cases r; exact .bl _
  | .int _, _, _, r => by cases r; exact .int _
  | .str _, _, _, r => by cases r; exact .str _
  | .lst us, _, h, r => by
    simp only [U.dep] at h
    cases r with
    | lst e t => simp only [U.toD]; exact .lst (.inl (.inl (hf _ _ e))) (RepAll.dp hf (by omega) t)
  | .tup us, _, h, r => by
    simp only [U.dep] at h
    cases r with
    | tup e t => simp only [U.toD]; exact .tup (SqT.sub hf e) (RepAll.dp hf (by omega) t)
  | .dic _, _, h, _ => by simp [U.dep] at h
  | .fn _, _, h, _ => by simp [U.dep] at h
  | .scr _, _, h, _ => by simp [U.dep] at h
theorem RepAll.dp {K : PySem.W.Frag} {F H : Hp} (hf : Sub F H) : ∀ {u : List U} {v : List V}, U.deps u ≤ 64 → RepAll K fa F v u → DpAll K H v (U.toDs u)
  | [], _, _, r => by cases r; exact .nil
  | x :: us, _, h, r => by
    simp only [U.deps] at h
    cases r with
    | cons a t => exact .cons (Rep.dp hf (by omega) a) (RepAll.dp hf (by omega) t)
end
theorem BRep.dp {K : PySem.W.Frag} {F H : Hp} {v : V} {u : U} (hf : Sub F H) (h : u.data = true) (b : BRep K fa F H v u) : Dp K H v u.toD := by
  have h : u.dep ≤ 64 := of_decide_eq_true h
  rcases b with r | ⟨a, o, rfl, e, k⟩
  · exact r.dp hf h
  · cases k with
    | lst t =>
      simp only [U.dep] at h
      simp only [U.toD]
      exact .lst (.inl (.inl e)) (RepAll.dp hf (by omega) t)
    | dic t => simp [U.dep] at h

def cOf : COp → CmpOp
  | .eq => .Eq | .ne => .NotEq | .lt => .Lt | .le => .LtE | .gt => .Gt | .ge => .GtE | .is => .Is | .isnot => .IsNot | .isin => .In | .notin => .NotIn
/-- a comparison by values, as PF has it -/
def rCm (K : PySem.W.Frag) (fa : FA) (g : U → U → Option Bool) : R2 := fun x y H Q => ∃ F u1 u2 b, Sub F H ∧ BRep K fa F H x u1 ∧ BRep K fa F H y u2 ∧ g u1 u2 = some b ∧ Q (.bl b) H
theorem flat_rep {K : PySem.W.Frag} {F : Hp} {v : V} {u : U} (r : Rep K fa F v u) (h : u.flat = true) : flatV v = true := by
  cases r <;> first | rfl | cases h
theorem flat_brep {K : PySem.W.Frag} {F H : Hp} {v : V} {u : U} (r : BRep K fa F H v u) (h : u.flat = true) : Rep K fa F v u := by
  rcases r with r | ⟨a, o, _, _, k⟩
  · exact r
  · cases k <;> cases h
theorem flat_all {K : PySem.W.Frag} {F : Hp} : ∀ {vs : List V} {us : List U}, RepAll K fa F vs us → us.all U.flat = true → vs.all flatV = true
  | _, _, .nil, _ => rfl
  | _, _, .cons r t, h => by
    simp only [List.all_cons, Bool.and_eq_true] at h ⊢
    exact ⟨flat_rep r h.1, flat_all t h.2⟩
theorem eqV_eq {K : PySem.W.Frag} {F : Hp} {v v' : V} {u u' : U} (r : Rep K fa F v u) (r' : Rep K fa F v' u') (h : u.flat = true) (h' : u'.flat = true) : eqV v v' = U.eq u u' := by
  cases r <;> first | (cases h; done) | skip
  all_goals (cases r' <;> first | (cases h'; done) | simp [eqV, U.eq])
theorem inV_eq {K : PySem.W.Frag} {F : Hp} {v : V} {u : U} (r : Rep K fa F v u) (h : u.flat = true) : ∀ {vs : List V} {us : List U}, RepAll K fa F vs us → us.all U.flat = true → inV v vs = us.any fun y => U.eq y u
  | _, _, .nil, _ => rfl
  | _, _, .cons a t, k => by
    simp only [List.all_cons, Bool.and_eq_true] at k
    unfold inV
    simp only [List.any_cons]
    rw [eqV_eq a r k.1 h]
    exact congrArg _ (inV_eq r h t k.2)
theorem keyF_rep {K : PySem.W.Frag} {F H : Hp} {v : V} {u : U} {k : Key} (b : BRep K fa F H v u) (h : keyF u = some k) : v = kV k := by
  unfold keyF at h
  split at h
  · cases h; exact b.int
  · cases h; exact b.str
  · cases h
theorem val_kv {K : PySem.W.Frag} {F : Hp} (k : Key) : ∀ {xs : List (Key × V)} {us : List (Key × U)}, RepKV K fa F xs us → (valV xs k = none ∧ valU us k = none) ∨ ∃ v u, valV xs k = some v ∧ valU us k = some u ∧ Rep K fa F v u
  | _, _, .nil => .inl ⟨rfl, rfl⟩
  | _, _, .cons (k := k') (v := v) (u := u) (vs := vs) (us := us) r t => by
    by_cases h : k' = k
    · exact .inr ⟨v, u, valV_pos h, by simp [valU, List.find?_cons, h], r⟩
    · have e1 : valV ((k', v) :: vs) k = valV vs k := valV_neg h
      have e2 : valU ((k', u) :: us) k = valU us k := by simp [valU, List.find?_cons, h]
      rw [e1, e2]
      exact val_kv k t
theorem any_kv {K : PySem.W.Frag} {F : Hp} (k : Key) : ∀ {xs : List (Key × V)} {us : List (Key × U)}, RepKV K fa F xs us → (xs.any fun kv => decide (kv.1 = k)) = us.any fun kv => decide (kv.1 = k)
  | _, _, .nil => rfl
  | _, _, .cons r t => by simp only [List.any_cons]; rw [any_kv k t]
theorem kv_length {K : PySem.W.Frag} {F : Hp} : ∀ {xs : List (Key × V)} {us : List (Key × U)}, RepKV K fa F xs us → xs.length = us.length
  | _, _, .nil => rfl
  | _, _, .cons r t => congrArg (· + 1) (kv_length t)
theorem map_kv {K : PySem.W.Frag} {F : Hp} {v : V} {u : U} (r : Rep K fa F v u) (k : Key) : ∀ {xs : List (Key × V)} {us : List (Key × U)}, RepKV K fa F xs us →
    RepKV K fa F (xs.map fun kv => if kv.1 = k then (kv.1, v) else kv) (us.map fun kv => if kv.1 = k then (kv.1, u) else kv)
  | _, _, .nil => .nil
  | _, _, .cons (k := k') a t => by
    simp only [List.map_cons]
    by_cases h : k' = k
    · simp only [h, if_true]; exact .cons r (map_kv r k t)
    · simp only [h, if_false]; exact .cons a (map_kv r k t)
theorem app_kv {K : PySem.W.Frag} {F : Hp} {v : V} {u : U} (r : Rep K fa F v u) (k : Key) : ∀ {xs : List (Key × V)} {us : List (Key × U)}, RepKV K fa F xs us → RepKV K fa F (xs ++ [(k, v)]) (us ++ [(k, u)])
  | _, _, .nil => .cons r .nil
  | _, _, .cons a t => .cons a (app_kv r k t)
theorem put_kv {K : PySem.W.Frag} {F : Hp} {v : V} {u : U} (r : Rep K fa F v u) (k : Key) {xs : List (Key × V)} {us : List (Key × U)} (h : RepKV K fa F xs us) : RepKV K fa F (putK xs k v) (putU us k u) := by
  unfold putK putU
  rw [any_kv k h]
  split
  · exact map_kv r k h
  · exact app_kv r k h
theorem cmp_ok (hu : X.A.units + 65 < cLine) (op : COp) : OpR X (compareOp (cOf op)) (rCm X.K fa (cmpF op)) := by
  intro pins s σ H x y v u Q I rx ry ⟨F, u1, u2, c, hf, b1, b2, e, q⟩
  have opt : ∀ {f : Bool → Bool} {o : Option Bool}, o.map f = some c → ∃ d, o = some d ∧ f d = c := fun {f o} h => Option.map_eq_some_iff.mp h
  have isin : ∀ (ys : List U) (b : Bool), inF u1 ys = some b → u1.flat = true ∧ ys.all U.flat = true ∧ b = ys.any fun y => U.eq y u1 := fun ys b h => by
    unfold inF at h
    split at h
    · rename_i hc
      simp only [Bool.and_eq_true] at hc
      exact ⟨hc.1, hc.2, (Option.some.inj h).symm⟩
    · cases h
  unfold cmpF at e
  split at e
  · split at e
    · rename_i hd
      simp only [Bool.and_eq_true] at hd
      cases e
      refine op_eqD (by omega) pins s σ H x y v u Q I rx ry ⟨_, _, b1.dp hf hd.1, b2.dp hf hd.2, U.shaped hd.1, U.shaped hd.2, ?_⟩
      rw [U.eqv _ _ (of_decide_eq_true hd.1) (of_decide_eq_true hd.2)]
      exact q
    · cases e
  · split at e
    · rename_i hd
      simp only [Bool.and_eq_true] at hd
      cases e
      refine op_neD (by omega) pins s σ H x y v u Q I rx ry ⟨_, _, b1.dp hf hd.1, b2.dp hf hd.2, U.shaped hd.1, U.shaped hd.2, ?_⟩
      rw [U.eqv _ _ (of_decide_eq_true hd.1) (of_decide_eq_true hd.2)]
      exact q
    · cases e
  · cases e; cases b1.int; cases b2.int
    exact op_lt pins s σ H _ _ _ _ Q I rx ry ⟨_, _, rfl, rfl, q⟩
  · cases e; cases b1.int; cases b2.int
    exact op_le pins s σ H _ _ _ _ Q I rx ry ⟨_, _, rfl, rfl, q⟩
  · cases e; cases b1.int; cases b2.int
    exact op_gt pins s σ H _ _ _ _ Q I rx ry ⟨_, _, rfl, rfl, q⟩
  · cases e; cases b1.int; cases b2.int
    exact op_ge pins s σ H _ _ _ _ Q I rx ry ⟨_, _, rfl, rfl, q⟩
  · cases b2.non
    refine op_isN pins s σ H _ _ _ _ Q I rx ry ⟨rfl, ?_⟩
    have hx : decide (x = V.non) = c := by
      split at e
      · cases e; cases b1.non; rfl
      · rename_i hn
        cases e
        refine decide_eq_false fun z => ?_
        subst z
        rcases b1 with r | ⟨_, _, z, _, _⟩
        · cases r; exact hn rfl
        · cases z
    rw [hx]
    exact q
  · cases b2.non
    refine op_notN pins s σ H _ _ _ _ Q I rx ry ⟨rfl, ?_⟩
    have hx : (!decide (x = V.non)) = c := by
      split at e
      · cases e; cases b1.non; rfl
      · rename_i hn
        cases e
        rw [decide_eq_false]
        · rfl
        intro z
        subst z
        rcases b1 with r | ⟨_, _, z, _, _⟩
        · cases r; exact hn rfl
        · cases z
    rw [hx]
    exact q
  · obtain ⟨f1, f2, e3⟩ := isin _ _ e
    obtain ⟨a, xs, rfl, h2, r2⟩ := b2.lst hf
    refine op_in_seq pins s σ H _ _ _ _ Q I rx ry ⟨a, xs, rfl, .inl (.inl (.inl h2)), flat_rep (flat_brep b1 f1) f1, flat_all r2 f2, ?_⟩
    simp only [Bool.false_eq_true, if_false]
    rw [inV_eq (flat_brep b1 f1) f1 r2 f2, ← e3]
    exact q
  · obtain ⟨f1, f2, e3⟩ := isin _ _ e
    obtain ⟨a, xs, rfl, h2, r2, _⟩ := b2.tup hf
    refine op_in_seq pins s σ H _ _ _ _ Q I rx ry ⟨a, xs, rfl, .inr h2, flat_rep (flat_brep b1 f1) f1, flat_all r2 f2, ?_⟩
    simp only [Bool.false_eq_true, if_false]
    rw [inV_eq (flat_brep b1 f1) f1 r2 f2, ← e3]
    exact q
  · obtain ⟨d, e', rfl⟩ := opt e
    obtain ⟨f1, f2, e3⟩ := isin _ _ e'
    obtain ⟨a, xs, rfl, h2, r2⟩ := b2.lst hf
    refine op_notIn_seq pins s σ H _ _ _ _ Q I rx ry ⟨a, xs, rfl, .inl (.inl (.inl h2)), flat_rep (flat_brep b1 f1) f1, flat_all r2 f2, ?_⟩
    simp only [if_true]
    rw [inV_eq (flat_brep b1 f1) f1 r2 f2, ← e3]
    exact q
  · obtain ⟨d, e', rfl⟩ := opt e
    obtain ⟨f1, f2, e3⟩ := isin _ _ e'
    obtain ⟨a, xs, rfl, h2, r2, _⟩ := b2.tup hf
    refine op_notIn_seq pins s σ H _ _ _ _ Q I rx ry ⟨a, xs, rfl, .inr h2, flat_rep (flat_brep b1 f1) f1, flat_all r2 f2, ?_⟩
    simp only [if_true]
    rw [inV_eq (flat_brep b1 f1) f1 r2 f2, ← e3]
    exact q
  · obtain ⟨k, e', rfl⟩ := Option.map_eq_some_iff.mp e
    obtain ⟨a, xs, rfl, h2, r2⟩ := b2.dic hf
    obtain rfl := keyF_rep b1 e'
    cases (show u = Value.ref a from ry)
    refine d_in (by omega) I (DGet.k h2) rx fun s' I' => ⟨.bl _, H, I', rfl, ?_⟩
    rcases val_kv k r2 with ⟨h3, h4⟩ | ⟨w, u', h3, h4, _⟩ <;> (rw [h3]; rw [h4] at q; exact q)
  · obtain ⟨k, e', rfl⟩ := Option.map_eq_some_iff.mp e
    obtain ⟨a, xs, rfl, h2, r2⟩ := b2.dic hf
    obtain rfl := keyF_rep b1 e'
    cases (show u = Value.ref a from ry)
    refine d_notIn (by omega) I (DGet.k h2) rx fun s' I' => ⟨.bl _, H, I', rfl, ?_⟩
    rcases val_kv k r2 with ⟨h3, h4⟩ | ⟨w, u', h3, h4, _⟩ <;> (rw [h3]; rw [h4] at q; exact q)
  · cases e

theorem atI_rep {K : PySem.W.Frag} {F : Hp} {xs : List V} {us : List U} {i : Int} {u : U} (r : RepAll K fa F xs us) (h : atU us i = some u) : ∃ v, atI xs i = some v ∧ Rep K fa F v u := by
  unfold atU atI at h
  unfold atI
  rw [r.length]
  cases e : ixN us.length i with
  | none => rw [e] at h; cases h
  | some j => rw [e] at h; exact r.get h
/-- a subscript by values, as PF has it -/
def rIxU (K : PySem.W.Frag) (fa : FA) : R2 := fun x y H Q => ∃ F u1 u2 w, Sub F H ∧ BRep K fa F H x u1 ∧ BRep K fa F H y u2 ∧ idxF u1 u2 = some w ∧ ∀ v, Rep K fa F v w → Q v H
theorem ix_ok (hu : X.A.units + 65 < cLine) : IxR X (rIxU X.K fa) := by
  intro value slice pins s σ H x y v u Q I rx ry ⟨F, u1, u2, w, hf, b1, b2, e, q⟩ hs
  unfold idxF at e
  split at e
  · obtain ⟨a, xs, rfl, h1, r1⟩ := b1.lst hf
    cases b2.int
    obtain ⟨z, h2, r2⟩ := atI_rep r1 e
    exact ix_list value slice pins s σ H _ _ _ _ Q I rx ry ⟨a, xs, _, z, rfl, rfl, .inl (.inl h1), h2, q _ r2⟩ hs
  · obtain ⟨a, xs, rfl, h1, r1, _⟩ := b1.tup hf
    cases b2.int
    obtain ⟨z, h2, r2⟩ := atI_rep r1 e
    exact ix_tup value slice pins s σ H _ _ _ _ Q I rx ry ⟨a, xs, _, z, rfl, rfl, h1, h2, q _ r2⟩ hs
  · split at e
    · obtain ⟨c, h2, rfl⟩ := Option.map_eq_some_iff.mp e
      cases b1.str; cases b2.int
      exact ix_str value slice pins s σ H _ _ _ _ Q I rx ry ⟨_, _, c, rfl, rfl, by assumption, h2, q _ (.str _)⟩ hs
    · cases e
  · obtain ⟨k, h2, h3⟩ := Option.bind_eq_some_iff.mp e
    obtain ⟨a, xs, rfl, h1, r1⟩ := b1.dic hf
    obtain rfl := keyF_rep b2 h2
    cases (show v = Value.ref a from rx)
    rcases val_kv k r1 with ⟨_, h4⟩ | ⟨z, u', h4, h5, r2⟩
    · rw [h4] at h3; cases h3
    · rw [h5] at h3
      cases h3
      have g : DGet H a (kV k) (some z) := by rw [← h4]; exact DGet.k h1
      exact tail_any (dict_typeIs I g) PySem.F.slot_dict_getitem.lookup (d_getItem (by omega) I g ry fun w' s' I' rw' => ⟨z, H, I', rw', q _ r2⟩) hs
  · cases e
theorem cut_rep {K : PySem.W.Frag} {F : Hp} {xs : List V} {us : List U} (r : RepAll K fa F xs us) (lo hi : Option Int) : RepAll K fa F (cutV xs lo hi) (cutU us lo hi) := by
  unfold cutV cutU
  rw [r.length]
  exact (r.drop _).take _
theorem cut_all {us : List U} {lo hi : Option Int} (h : HT.sIx us.length 0 lo = 0 ∧ HT.sIx us.length us.length hi = us.length) : cutU us lo hi = us := by
  unfold cutU
  rw [h.1, h.2, List.drop_zero, Nat.sub_zero, List.take_length]
/-- a slice by values, as PF has it -/
def rSlU (K : PySem.W.Frag) (fa : FA) : V → Option Int → Option Int → Hp → VK → Prop := fun x lo hi H Q => ∃ F u w, Sub F H ∧ BRep K fa F H x u ∧ slcF u lo hi = some w ∧ ∀ v F' H', OpPost K fa F H w v F' H' → Q v H'
theorem sl_ok : SlR X (rSlU X.K fa) := by
  intro pins s σ H x v vl vu lo hi sl Q I rx hs pl pu ⟨F, u, w, hf, b, e, q⟩
  unfold slcF at e
  split at e
  · cases e
    obtain ⟨a, xs, rfl, h1, r1⟩ := b.lst hf
    exact sl_list pins s σ H _ v vl vu _ _ sl Q I rx hs pl pu ⟨a, xs, rfl, .inl (.inl h1), fun p hp => q _ _ _ (.own hf hp (.lst (cut_rep r1 _ _)))⟩
  · cases e
    obtain ⟨a, xs, rfl, h1, r1, r0⟩ := b.tup hf
    refine sl_tupA pins s σ H _ v vl vu _ _ sl Q I rx hs pl pu ⟨a, xs, rfl, h1, fun z => ?_, fun _ p hp => q _ _ _ (.tup hf hp (cut_rep r1 _ _))⟩
    rw [r1.length] at z
    rw [cut_all z] at q
    exact q _ _ _ (.val hf r0)
  · cases e

def bltV : Blt → Value
  | .len => .builtin "len" | .abs => .builtin "abs" | .max2 => .builtin "max" | .min2 => .builtin "min" | .sum => .builtin "sum" | .all => .builtin "all" | .any => .builtin "any"
  | .int => .type "int" | .list => .type "list" | .tuple => .type "tuple" | .sorted => .builtin "sorted" | .str => .type "str"
def bltN : Blt → Str
  | .len => "len" | .abs => "abs" | .max2 => "max" | .min2 => "min" | .sum => "sum" | .all => "all" | .any => "any"
  | .int => "int" | .list => "list" | .tuple => "tuple" | .sorted => "sorted" | .str => "str"
theorem blt_boot : ∀ b : Blt, bootBuiltins (bltN b) = some (bltV b)
  | .len => by decide +kernel
  | .abs => by decide +kernel
  | .max2 => by decide +kernel
  | .min2 => by decide +kernel
  | .sum => by decide +kernel
  | .all => by decide +kernel
  | .any => by decide +kernel
  | .int => by decide +kernel
  | .list => by decide +kernel
  | .tuple => by decide +kernel
  | .sorted => by decide +kernel
  | .str => by decide +kernel
inductive BReps (K : PySem.W.Frag) (fa : FA) (F H : Hp) : List V → List U → Prop
  | nil : BReps K fa F H [] []
  | cons {v : V} {vs : List V} {u : U} {us : List U} : BRep K fa F H v u → BReps K fa F H vs us → BReps K fa F H (v :: vs) (u :: us)
theorem BReps.one {K : PySem.W.Frag} {F H : Hp} {vs : List V} {u : U} (h : BReps K fa F H vs [u]) : ∃ v, vs = [v] ∧ BRep K fa F H v u := by
  cases h with
  | cons a t => cases t; exact ⟨_, rfl, a⟩
theorem BReps.two {K : PySem.W.Frag} {F H : Hp} {vs : List V} {u u' : U} (h : BReps K fa F H vs [u, u']) : ∃ v v', vs = [v, v'] ∧ BRep K fa F H v u ∧ BRep K fa F H v' u' := by
  cases h with
  | cons a t =>
    obtain ⟨v', rfl, b⟩ := t.one
    exact ⟨_, _, rfl, a, b⟩
theorem BReps.three {K : PySem.W.Frag} {F H : Hp} {vs : List V} {u u' u'' : U} (h : BReps K fa F H vs [u, u', u'']) : ∃ v v' v'', vs = [v, v', v''] ∧ BRep K fa F H v u ∧ BRep K fa F H v' u' ∧ BRep K fa F H v'' u'' := by
  cases h with
  | cons a t =>
    obtain ⟨v', v'', rfl, b, c⟩ := t.two
    exact ⟨_, _, _, rfl, a, b, c⟩
def rBl (K : PySem.W.Frag) (fa : FA) (g : List U → Option Slot) : List V → Hp → VK → Prop := fun xs H Q => ∃ F us w, Sub F H ∧ BReps K fa F H xs us ∧ g us = some w ∧ ∀ v F' H', OpPost K fa F H w v F' H' → Q v H'
theorem blt_ok (hc : X.calm = true) (b : Blt) : CallR X (bltV b) (rBl X.K fa (bltF b)) := by
  intro pins s σ H xs us Q I r ⟨F, as, w, hf, bs, e, q⟩
  unfold bltF at e
  split at e
  · cases e
    obtain ⟨v, rfl, b1⟩ := bs.one
    obtain ⟨a, ys, rfl, h1, r1⟩ := b1.lst hf
    exact call_len pins s σ H _ us Q I r ⟨_, _, rfl, .inl ⟨ys, .inl (.inl h1), rfl⟩, by rw [r1.length]; exact q _ _ _ (.val hf (.int _))⟩
  · cases e
    obtain ⟨v, rfl, b1⟩ := bs.one
    obtain ⟨a, ys, rfl, h1, r1, _⟩ := b1.tup hf
    exact call_len pins s σ H _ us Q I r ⟨_, _, rfl, .inr ⟨ys, h1, rfl⟩, by rw [r1.length]; exact q _ _ _ (.val hf (.int _))⟩
  · split at e
    · cases e
      obtain ⟨v, rfl, b1⟩ := bs.one
      cases b1.str
      exact call_len pins s σ H _ us Q I r ⟨_, _, rfl, ⟨by assumption, rfl⟩, q _ _ _ (.val hf (.int _))⟩
    · cases e
  · cases e
    obtain ⟨v, rfl, b1⟩ := bs.one
    cases b1.int
    exact call_abs pins s σ H _ us Q I r ⟨_, rfl, q _ _ _ (.val hf (.int _))⟩
  · cases e
    obtain ⟨v, v', rfl, b1, b2⟩ := bs.two
    cases b1.int; cases b2.int
    exact call_max2 hc pins s σ H _ us Q I r ⟨_, _, rfl, q _ _ _ (.val hf (.int _))⟩
  · cases e
    obtain ⟨v, v', rfl, b1, b2⟩ := bs.two
    cases b1.int; cases b2.int
    exact call_min2 hc pins s σ H _ us Q I r ⟨_, _, rfl, q _ _ _ (.val hf (.int _))⟩
  · obtain ⟨ns, e1, rfl⟩ := Option.map_eq_some_iff.mp e
    obtain ⟨v, rfl, b1⟩ := bs.one
    obtain ⟨a, ys, rfl, h1, r1⟩ := b1.lst hf
    exact cr_sum hc pins s σ H _ us Q I r ⟨a, ns, rfl, by rw [← r1.ints e1]; exact .inl (.inl h1), q _ _ _ (.val hf (.int _))⟩
  · obtain ⟨ns, e1, rfl⟩ := Option.map_eq_some_iff.mp e
    obtain ⟨v, rfl, b1⟩ := bs.one
    obtain ⟨a, ys, rfl, h1, r1⟩ := b1.lst hf
    exact cr_all hc pins s σ H _ us Q I r ⟨a, ns, rfl, by rw [← r1.bls e1]; exact .inl (.inl h1), q _ _ _ (.val hf (.bl _))⟩
  · obtain ⟨ns, e1, rfl⟩ := Option.map_eq_some_iff.mp e
    obtain ⟨v, rfl, b1⟩ := bs.one
    obtain ⟨a, ys, rfl, h1, r1⟩ := b1.lst hf
    exact cr_any hc pins s σ H _ us Q I r ⟨a, ns, rfl, by rw [← r1.bls e1]; exact .inl (.inl h1), q _ _ _ (.val hf (.bl _))⟩
  · cases e
    obtain ⟨v, rfl, b1⟩ := bs.one
    cases b1.int
    exact call_int1 pins s σ H _ us Q I r (.inl ⟨_, rfl, q _ _ _ (.val hf (.int _))⟩)
  · cases e
    obtain ⟨v, rfl, b1⟩ := bs.one
    cases b1.bl
    exact call_int1 pins s σ H _ us Q I r (.inr ⟨_, rfl, q _ _ _ (.val hf (.int _))⟩)
  · cases e
    obtain ⟨v, rfl, b1⟩ := bs.one
    obtain ⟨a, ys, rfl, h1, r1⟩ := b1.lst hf
    exact call_list_of pins s σ H _ us Q I r ⟨a, ys, rfl, .inl (.inl (.inl h1)), fun p hp => q _ _ _ (.own hf hp (.lst r1))⟩
  · cases e
    obtain ⟨v, rfl, b1⟩ := bs.one
    obtain ⟨a, ys, rfl, h1, r1, _⟩ := b1.tup hf
    exact call_list_of pins s σ H _ us Q I r ⟨a, ys, rfl, .inr h1, fun p hp => q _ _ _ (.own hf hp (.lst r1))⟩
  · cases e
    obtain ⟨v, rfl, b1⟩ := bs.one
    obtain ⟨a, ys, rfl, h1, r1⟩ := b1.scr hf
    exact call_list_of pins s σ H _ us Q I r ⟨a, ys, rfl, .inl h1, fun p hp => q _ _ _ (.own hf hp (.lst r1))⟩
  · cases e
    obtain ⟨v, rfl, b1⟩ := bs.one
    obtain ⟨a, ys, rfl, h1, r1⟩ := b1.lst hf
    exact call_tuple_of pins s σ H _ us Q I r ⟨a, ys, rfl, .inl ⟨.inl (.inl h1), fun p hp => q _ _ _ (.tup hf hp r1)⟩⟩
  · cases e
    obtain ⟨v, rfl, b1⟩ := bs.one
    obtain ⟨a, ys, rfl, h1, r1, r0⟩ := b1.tup hf
    exact call_tuple_of pins s σ H _ us Q I r ⟨a, ys, rfl, .inr ⟨h1, q _ _ _ (.val hf r0)⟩⟩
  · obtain ⟨ns, e1, rfl⟩ := Option.map_eq_some_iff.mp e
    obtain ⟨v, rfl, b1⟩ := bs.one
    obtain ⟨a, ys, rfl, h1, r1⟩ := b1.lst hf
    refine cr_sortedI pins s σ H _ us Q I r ⟨a, ns, rfl, by rw [← r1.ints e1]; exact .inl (.inl h1), fun ns' p h2 h3 hp => ?_⟩
    have h4 : (ns.mergeSort fun a b => decide (a ≤ b)).Pairwise (· ≤ ·) := by
      have := List.pairwise_mergeSort (le := fun a b : Int => decide (a ≤ b)) (fun a b c h h' => by simp only [decide_eq_true_eq] at *; omega) (fun a b => by simp only [Bool.or_eq_true, decide_eq_true_eq]; omega) ns
      exact this.imp fun h => of_decide_eq_true h
    have h5 : ns' = ns.mergeSort fun a b => decide (a ≤ b) := PySem.W.ksm_same (h2.trans (List.mergeSort_perm ns _).symm) h3 h4
    subst h5
    exact q _ _ _ (.own hf hp (.lst (RepAll.of_ints _)))
  · split at e
    · cases e
      obtain ⟨v, rfl, b1⟩ := bs.one
      cases b1.int
      exact call_str_int pins s σ H _ us Q I r ⟨_, rfl, by assumption, q _ _ _ (.val hf (.str _))⟩
    · cases e
  · cases e

def tyS : TyN → String
  | .int => "int" | .bool => "bool" | .str => "str" | .tuple => "tuple" | .list => "list"
theorem ty_boot : ∀ t : TyN, bootBuiltins (tyS t) = some (.type (tyS t))
  | .int => by decide +kernel
  | .bool => by decide +kernel
  | .str => by decide +kernel
  | .tuple => by decide +kernel
  | .list => by decide +kernel
theorem kit_int (t : TyN) : kitB "int" (tyS t) = some (match t with | .int => true | _ => false) := by cases t <;> decide +kernel
theorem kit_bl (t : TyN) : kitB "bool" (tyS t) = some (match t with | .int => true | .bool => true | _ => false) := by cases t <;> decide +kernel
theorem kit_str (t : TyN) : kitB "str" (tyS t) = some (match t with | .str => true | _ => false) := by cases t <;> decide +kernel
theorem kit_tup (t : TyN) : kitB "tuple" (tyS t) = some (match t with | .tuple => true | _ => false) := by cases t <;> decide +kernel
theorem kit_lst (t : TyN) : kitB "list" (tyS t) = some (match t with | .list => true | _ => false) := by cases t <;> decide +kernel
theorem kit_non (t : TyN) : kitB "NoneType" (tyS t) = some false := by cases t <;> decide +kernel
theorem tyT {K : PySem.W.Frag} {H : Hp} {a : Addr} {xs : List V} (h : SqT K H a xs) : TyX K H (.ref a) (.type "tuple") := by
  rcases h with (h | ⟨o, h⟩) | ⟨o, its, n, h1, h2, _⟩
  · exact .base (.tup h)
  · exact .fTuple h
  · exact .kTuple h1 h2
def rIs (K : PySem.W.Frag) (fa : FA) (t : TyN) : List V → Hp → VK → Prop := fun xs H Q => ∃ F x u b, xs = [x, .ty (tyS t)] ∧ Sub F H ∧ BRep K fa F H x u ∧ istF t u = some b ∧ Q (.bl b) H
theorem ist_ok (t : TyN) : CallR X (.builtin "isinstance") (rIs X.K fa t) := by
  intro pins s σ H xs us Q I r ⟨F, x, u, b, e1, hf, b1, e, q⟩
  subst e1
  suffices h : ∃ ty : String, TyX X.K H x (.type ty) ∧ kitB ty (tyS t) = some b by
    obtain ⟨ty, h1, h2⟩ := h
    exact call_isi pins s σ H _ us Q I r ⟨x, _, _, _, b, rfl, .ty _, h1, kit_ty h2, q⟩
  cases u with
  | non => cases b1.non; refine ⟨"NoneType", .base .non, ?_⟩; rw [kit_non]; cases t <;> (cases e; rfl)
  | bl k => cases b1.bl; refine ⟨"bool", .base (.bl _), ?_⟩; rw [kit_bl]; cases t <;> (cases e; rfl)
  | int k => cases b1.int; refine ⟨"int", .base (.int _), ?_⟩; rw [kit_int]; cases t <;> (cases e; rfl)
  | str k => cases b1.str; refine ⟨"str", .base (.str _), ?_⟩; rw [kit_str]; cases t <;> (cases e; rfl)
  | tup k =>
    obtain ⟨a, ys, rfl, h1, _⟩ := b1.tup hf
    refine ⟨"tuple", tyT h1, ?_⟩
    rw [kit_tup]; cases t <;> (cases e; rfl)
  | lst k =>
    obtain ⟨a, ys, rfl, h1, _⟩ := b1.lst hf
    refine ⟨"list", .base (.lst h1), ?_⟩
    rw [kit_lst]; cases t <;> (cases e; rfl)
  | dic k => cases t <;> cases e
  | fn k => cases t <;> cases e
  | scr k => cases t <;> cases e

theorem tru_rep {K : PySem.W.Frag} {F H : Hp} {v : V} {u : U} {k : Bool} (hf : Sub F H) (b : BRep K fa F H v u) (e : u.tru = some k) : TruV K v H k := by
  cases u with
  | non => cases b.non; cases e; rfl
  | bl b' => cases b.bl; cases e; rfl
  | int i => cases b.int; cases e; rfl
  | str y =>
    cases b.str
    simp only [U.tru] at e
    split at e
    · cases e; exact ⟨by assumption, rfl⟩
    · cases e
  | tup us =>
    obtain ⟨a, xs, rfl, h1, r1, _⟩ := b.tup hf
    cases e
    refine .inr (.inl ⟨xs, h1, ?_⟩)
    cases r1 <;> rfl
  | lst us =>
    obtain ⟨a, xs, rfl, h1, r1⟩ := b.lst hf
    cases e
    refine .inl ⟨xs, .inl (.inl h1), ?_⟩
    cases r1 <;> rfl
  | dic us =>
    obtain ⟨a, xs, rfl, h1, r1⟩ := b.dic hf
    cases e
    refine .inr (.inr ⟨xs, h1, ?_⟩)
    cases r1 <;> rfl
  | fn _ => cases e
  | scr _ => cases e
end
end PF
end
section
set_option Elab.async false
set_option autoImplicit false
set_option linter.all false
set_option maxRecDepth 100000
namespace PF
open PySem PySem.Spec PyProof.Rows L2

abbrev XRt := Hp → Hp → Exn → Value → Option Addr → Prop
section
variable {α β : Type} {K : PySem.W.Frag} {fa : FA} {XR : XRt} {W : WX} {n : Nat} {F F1 H H1 : Hp} {σ τ : L2.St} {env env1 : En}
def Out (K : PySem.W.Frag) (fa : FA) (XR : XRt) (W : WX) (n : Nat) (sh : α → List Slot) (F H : Hp) (σ : L2.St) (env : En) (r : Res (α × En)) (Q : α → List V → Hp → Prop) : Prop := match r with
  | .ok (a, env') => ∀ vs F' H', Sim K fa n F' H' (σ ++ vs.map some) (env' ++ sh a) → Stp F H σ env F' H' (σ ++ vs.map some) (env' ++ sh a) → env'.length = n → Q a vs H'
  | .exc x env' => ∀ F' H' cls d, Sim K fa n F' H' σ env' → Stp F H σ env F' H' σ env' → XR F' H' x cls d → W cls d σ H'
  | .bad => False
theorem Out.pre {sh : α → List Slot} {r : Res (α × En)} {Q : α → List V → Hp → Prop} (h : Out K fa XR W n sh F H σ env r Q) (st : Stp F H σ env F1 H1 σ env1) : Out K fa XR W n sh F1 H1 σ env1 r Q := by
  cases r with
  | ok z => exact fun vs F' H' S St hl => h vs F' H' S (st.trans St) hl
  | exc x e => exact fun F' H' cls d S St hx => h F' H' cls d S (st.trans St) hx
  | bad => exact h
theorem Out.imp {sh : α → List Slot} {r : Res (α × En)} {Q Q' : α → List V → Hp → Prop} (h : Out K fa XR W n sh F H σ env r Q) (i : ∀ a vs H', Q a vs H' → Q' a vs H') : Out K fa XR W n sh F H σ env r Q' := by
  cases r with
  | ok z => exact fun vs F' H' S St hl => i _ _ _ (h vs F' H' S St hl)
  | exc x e => exact h
  | bad => exact h
/-- a run within a run -/
theorem Out.sub {sh : α → List Slot} {sh' : β → List Slot} {r : Res (α × En)} {k : α × En → Res (β × En)} {Q : β → List V → Hp → Prop} (h : Out K fa XR W n sh' F H σ env (r.bind k) Q) (st : Stp F H σ env F1 H1 σ env1) :
    Out K fa XR W n sh F1 H1 σ env1 r (fun a vs H' => ∃ F' env', r = .ok (a, env') ∧ Sim K fa n F' H' (σ ++ vs.map some) (env' ++ sh a) ∧ Stp F1 H1 σ env1 F' H' (σ ++ vs.map some) (env' ++ sh a) ∧ env'.length = n) := by
  cases r with
  | ok z => exact fun vs F' H' S' St hl => ⟨F', z.2, rfl, S', St, hl⟩
  | exc x e => exact fun F' H' cls d S St hx => h F' H' cls d S (st.trans St) hx
  | bad => exact h
theorem Out.of {sh' : β → List Slot} {o : Option α} {k : α → Res (β × En)} {Q : β → List V → Hp → Prop} (h : Out K fa XR W n sh' F H σ env ((Res.of o).bind k) Q) : ∃ a, o = some a ∧ Out K fa XR W n sh' F H σ env (k a) Q := by
  cases o with
  | none => exact h.elim
  | some a => exact ⟨a, rfl, h⟩
/-- an answer by an operation -/
theorem Out.post {w : Slot} {v : V} {F' H' : Hp} {Q : Slot → List V → Hp → Prop} (S : Sim K fa n F1 H1 σ env1) (st : Stp F H σ env F1 H1 σ env1) (hl : env1.length = n) (h : Out K fa XR W n (fun w => [w]) F H σ env (.ok (w, env1)) Q) (P : OpPost K fa F1 H1 w v F' H') : Q w [v] H' := by
  obtain ⟨S1, St⟩ := P.sim S
  exact h [v] F' H' S1 (st.trans St) hl
end

section
variable {K : PySem.W.Frag} {fa : FA} {n : Nat} {F H : Hp} {σ : L2.St} {env : En}
/-- a place's value, looked at -/
theorem look_rep {τ : L2.St} {ws : En} (S : Sim K fa n F H (σ ++ τ) (env ++ ws)) (hl : σ.length = env.length) (hn : n ≤ σ.length) {j : Nat} {s : Slot} {u : U} {v : V} (h1 : ws[j]? = some s) (h2 : τ[j]? = some (some v)) (h : look env s = some u) : BRep K fa F H v u := by
  have e1 : (env ++ ws)[env.length + j]? = some s := by rw [getR (by omega), Nat.add_sub_cancel_left]; exact h1
  have e2 : (σ ++ τ)[env.length + j]? = some (some v) := by rw [getR (by omega), hl, Nat.add_sub_cancel_left]; exact h2
  have q := S.slot _ _ e1
  cases s with
  | emp => cases h
  | val u' =>
    cases h
    obtain ⟨v', q1, q2⟩ := q
    rw [e2] at q1
    cases q1
    exact .inl q2
  | own u' p =>
    cases h
    obtain ⟨a, o, q1, q2, q3, _⟩ := q
    rw [e2] at q1
    cases q1
    exact .inr ⟨a, o, rfl, q2, q3⟩
  | bor i =>
    obtain ⟨hi, v', q1, q2⟩ := q
    rw [e2] at q1
    cases q1
    have hi' : i < env.length := by omega
    cases e : env[i]? with
    | none =>
      have := List.getElem?_eq_none_iff.mp e
      omega
    | some t =>
      have r := S.slot i t (by rw [getL hi']; exact e)
      cases t with
      | emp => simp [look, e] at h
      | bor k => simp [look, e] at h
      | val u' =>
        simp only [look, e] at h
        cases h
        obtain ⟨v', r1, r2⟩ := r
        rw [q2] at r1
        cases r1
        exact .inl r2
      | own u' p =>
        simp only [look, e] at h
        cases h
        obtain ⟨a, o, r1, r2, r3, _⟩ := r
        rw [q2] at r1
        cases r1
        exact .inr ⟨a, o, rfl, r2, r3⟩
theorem looks_rep : ∀ {ws ws0 : En} {vs vs0 : List V} {us : List U}, Sim K fa n F H (σ ++ (vs0 ++ vs).map some) (env ++ (ws0 ++ ws)) → σ.length = env.length → n ≤ σ.length → vs0.length = ws0.length → vs.length = ws.length → looks env ws = some us → BReps K fa F H vs us
  | [], _, [], _, us, _, _, _, _, _, h => by cases h; exact .nil
  | [], _, _ :: _, _, _, _, _, _, _, h, _ => by simp at h
  | _ :: _, _, [], _, _, _, _, _, _, h, _ => by simp at h
  | s :: ws, ws0, v :: vs, vs0, us, S, hl, hn, h0, hv, h => by
    unfold looks at h
    obtain ⟨u, e1, h⟩ := Option.bind_eq_some_iff.mp h
    obtain ⟨us', e2, e3⟩ := Option.map_eq_some_iff.mp h
    subst e3
    refine .cons (look_rep (j := ws0.length) S hl hn (by simp) (by simp [← h0]) e1) ?_
    refine looks_rep (ws0 := ws0 ++ [s]) (vs0 := vs0 ++ [v]) (ws := ws) (vs := vs) ?_ hl hn (by simp [h0]) (by simpa using hv) e2
    simpa using S
theorem set_same {α : Type} {xs : List α} {i : Nat} {x : α} (h : xs[i]? = some x) : xs.set i x = xs := by
  apply List.ext_getElem?
  intro j
  by_cases c : i = j
  · subst c; rw [List.getElem?_set_self (ltOf h), h]
  · rw [List.getElem?_set_ne c]
/-- what is held on the side is changed by nobody from now on -/
theorem frz_one {s : Slot} {u : U} {i : Nat} (S : Sim K fa n F H σ env) (h : env[i]? = some s) (e : frz s = some u) : ∃ F', Sim K fa n F' H σ (env.set i (.val u)) ∧ Stp F H σ env F' H σ (env.set i (.val u)) := by
  cases s with
  | emp => cases e
  | bor _ => cases e
  | val u' =>
    cases e
    have : env.set i (.val u) = env := set_same h
    rw [this]
    exact ⟨F, S, .refl _ _ _ _⟩
  | own u' p =>
    cases p with
    | true => cases e
    | false => cases e; exact S.freeze h
theorem frzs_all : ∀ {F : Hp} {ws ws0 : En} {us : List U}, Sim K fa n F H σ (ws0 ++ ws) → frzs ws = some us → ∃ F', Sim K fa n F' H σ (ws0 ++ us.map .val) ∧ Stp F H σ (ws0 ++ ws) F' H σ (ws0 ++ us.map .val)
  | F, [], ws0, us, S, h => by cases h; exact ⟨F, by simpa using S, by simpa using Stp.refl _ _ _ _⟩
  | F, s :: ws, ws0, us, S, h => by
    unfold frzs at h
    obtain ⟨u, e1, h⟩ := Option.bind_eq_some_iff.mp h
    obtain ⟨us', e2, e3⟩ := Option.map_eq_some_iff.mp h
    subst e3
    obtain ⟨F1, S1, St1⟩ := frz_one (i := ws0.length) S (by simp) e1
    have es : (ws0 ++ s :: ws).set ws0.length (.val u) = (ws0 ++ [.val u]) ++ ws := by simp
    rw [es] at S1 St1
    obtain ⟨F2, S2, St2⟩ := frzs_all S1 e2
    refine ⟨F2, ?_, ?_⟩
    · simpa using S2
    · simpa using St1.trans St2
/-- what stands on the side as values -/
theorem vals_rep : ∀ {us : List U} {ws0 : En} {vs : List V} {τ : L2.St}, Sim K fa n F H (τ ++ vs.map some) (ws0 ++ us.map .val) → τ.length = ws0.length → vs.length = us.length → RepAll K fa F vs us
  | [], _, [], _, _, _, _ => .nil
  | [], _, _ :: _, _, _, _, h => by simp at h
  | _ :: _, _, [], _, _, _, h => by simp at h
  | u :: us, ws0, v :: vs, τ, S, h1, h2 => by
    refine .cons ?_ (vals_rep (ws0 := ws0 ++ [.val u]) (τ := τ ++ [some v]) (by simpa using S) (by simp [h1]) (by simpa using h2))
    obtain ⟨v', q1, q2⟩ := S.slot ws0.length (.val u) (by simp)
    rw [← h1] at q1
    simp at q1
    subst q1
    exact q2
theorem frzs_length : ∀ {ws : En} {us : List U}, frzs ws = some us → ws.length = us.length
  | [], us, h => by cases h; rfl
  | s :: ws, us, h => by
    unfold frzs at h
    obtain ⟨u, e1, h⟩ := Option.bind_eq_some_iff.mp h
    obtain ⟨us', e2, e3⟩ := Option.map_eq_some_iff.mp h
    subst e3
    simp [frzs_length e2]
/-- a new value and no other on the side -/
theorem Sim.swap {τ : L2.St} {ws : En} {w : Slot} {v : V} {F' H' : Hp} (S : Sim K fa n F H (σ ++ τ) (env ++ ws)) (hl : σ.length = env.length) (hn : n ≤ σ.length) (P : OpPost K fa F H w v F' H') :
    Sim K fa n F' H' (σ ++ [some v]) (env ++ [w]) ∧ Stp F H σ env F' H' (σ ++ [some v]) (env ++ [w]) := P.sim (S.head hl hn)
end

structure Tbl where
  fns : List Str
  cst : List Str
  free : List Str
  exc : List Str := []
  hot : Bool := false
  gcd : Bool := false
  tel : List Str := []
  lsc : Option (List (Str × NameKind)) := none
/-- a lambda without parameters -/
def noParB : Arguments → Bool
  | ⟨[], [], none, [], [], none, []⟩ => true
  | _ => false
theorem noPar_of {a : Arguments} (h : noParB a = true) : a = ⟨[], [], none, [], [], none, []⟩ := by
  unfold noParB at h
  split at h
  · rfl
  · cases h
def visB (sc : Scope) (x : Str) : Bool := match sc.names.lookup x with
  | some .local => true
  | some .cell => true
  | some .free => true
  | _ => false
def gloB (sc : Scope) (x : Str) : Bool := decide (sc.names.lookup x = some .globalImplicit)
def nameB (N : List Str) (sc : Scope) (i : Nat) (x : Str) : Bool := decide (N[i]? = some x) && visB sc x && !(x == ("__debug__" : Str)) && !(x == ("__classdict__" : Str))
/-- a name of the module or of the built-ins -/
def globB (sc : Scope) (x y : Str) : Bool := decide (x = y) && gloB sc x && !(x == ("__debug__" : Str)) && !decide (x = "__name__")
def plainB : Expr → Bool
  | .Starred .. => false
  | .Slice .. => false
  | .Set .. => false
  | _ => true
def conB : U → Const → Bool
  | .non, .none => true
  | .bl b, .bool c => b == c
  | .int i, .int j => decide (i = j)
  | .str x, .str y => decide (x = y)
  | _, _ => false
def tupB : Expr → Bool
  | .Tuple .. => true
  | _ => false
/-- a name that a block stores -/
def locB (sc : Scope) (x : Str) : Bool := match sc.names.lookup x with
  | some .local => true
  | some .cell => true
  | _ => false
mutual
/-- targets -/
def chkG (N : List Str) (sc : Scope) : E → Expr → Bool
  | .tnm i, .Name x _ => decide (N[i]? = some x) && locB sc x
  | .ttp es, .Tuple xs _ _ => chkGs N sc es xs
  | _, _ => false
def chkGs (N : List Str) (sc : Scope) : E → List Expr → Bool
  | .nil, [] => true
  | .cons a r, x :: xs => chkG N sc a x && plainB x && chkGs N sc r xs
  | _, _ => false
end
def E.tgs : E → List Nat
  | .tnm i => [i]
  | .ttp es => es.tgs
  | .cons a r => a.tgs ++ r.tgs
  | _ => []
def itB (T : Tbl) : ItK → Scope → Expr → Str → List Expr → Bool
  | .rng1, sc, _, x, [_] => globB sc x "range" && T.free.contains x
  | .rng2, sc, _, x, [_, _] => globB sc x "range" && T.free.contains x
  | .rng3, sc, _, x, [_, _, _] => globB sc x "range" && T.free.contains x
  | .enum, sc, tg, x, [_] => tupB tg && globB sc x "enumerate" && T.free.contains x
  | .zip, sc, tg, x, [_, _] => tupB tg && globB sc x "zip" && T.free.contains x
  | _, _, _, _, _ => false
def rngB : ItK → Bool
  | .rng1 => true
  | .rng2 => true
  | .rng3 => true
  | _ => false
def ownOf (N : List Str) (vs : List Nat) : List (Str × Nat) := vs.map fun i => ((N[i]?).getD ⟨#[]⟩, i)
/-- a comprehension's test -/
def cndB (c : E) (ifs : List Expr) (r : Expr → Bool) : Bool := match ifs with
  | [] => (match c with | .nil => true | _ => false)
  | [c'] => (match c with | .nil => false | _ => r c')
  | _ => false
/-- the scope within a comprehension: its targets and names -/
def compB (N : List Str) (vs : List Nat) (tg : E) (sc scope : Scope) (tg' it' : Expr) : Bool :=
  plainB it' && blkC N sc scope (ownOf N vs) && chkG N scope tg tg' && tg.tgs.all fun i => vs.contains i
section
variable (T : Tbl) (N : List Str)
mutual
def chkE : E → Scope → Expr → Bool
  | .var i, sc, .Name x _ => nameB N sc i x
  | .bor i, sc, .Name x _ => nameB N sc i x
  | .mov i, sc, .Name x _ => nameB N sc i x
  | .con u, _, .Constant c _ _ => conB u c
  | .glc k, sc, .Name x _ => (match T.cst[k]? with
    | some y => globB sc x y
    | none => false)
  | .fnr i, sc, .Name x _ => (match T.fns[i]? with
    | some y => globB sc x y
    | none => false)
  | .tup es, sc, .Tuple xs _ _ => chkL es sc xs
  | .lst es, sc, .List xs _ => chkL es sc xs
  | .dic0, _, .Dict [] [] _ => true
  | .bin op a b, sc, .BinOp x o y _ => decide (o = opOf op) && chkE a sc x && chkE b sc y
  | .neg a, sc, .UnaryOp .USub x _ => chkE a sc x
  | .not a, sc, .UnaryOp .Not x _ => chkE a sc x
  | .cmp op a b, sc, .Compare x [o] [y] _ => decide (o = cOf op) && chkE a sc x && chkE b sc y && plainB y
  | .chn op op' a b c, sc, .Compare x [o, o'] [y, z] _ => decide (o = cOf op) && decide (o' = cOf op') && chkE a sc x && chkE b sc y && chkE c sc z && plainB y && plainB z
  | .and a b, sc, .BoolOp .And (x :: y :: r) p => chkE a sc x && (match r with
    | [] => chkE b sc y
    | _ => chkE b sc (.BoolOp .And (y :: r) p))
  | .or a b, sc, .BoolOp .Or (x :: y :: r) p => chkE a sc x && (match r with
    | [] => chkE b sc y
    | _ => chkE b sc (.BoolOp .Or (y :: r) p))
  | .ite c a b, sc, .IfExp z x y _ => chkE c sc z && chkE a sc x && chkE b sc y
  | .call f es, sc, .Call (.Name x _) args [] _ => !T.hot && (match T.fns[f]? with
    | some y => globB sc x y
    | none => false) && chkL es sc args
  | .cvar i es, sc, .Call (.Name x _) args [] _ => !T.hot && nameB N sc i x && chkL es sc args
  | .blt b es, sc, .Call (.Name x _) args [] _ => !T.hot && globB sc x (bltN b) && T.free.contains x && chkL es sc args && !args.isEmpty
  | .ist t a, sc, .Call (.Name x _) [y, .Name z _] [] _ => globB sc x "isinstance" && T.free.contains x && globB sc z (tyS t) && T.free.contains z && chkE a sc y && plainB y
  | .idx a b, sc, .Subscript x y _ => chkE a sc x && chkE b sc y && plainB y
  | .slc a lo hi, sc, .Subscript x (.Slice l h none _) _ => chkE a sc x && (match l with
    | none => (match lo with | .nil => true | _ => false)
    | some l => (match lo with | .nil => false | _ => chkE lo sc l)) && (match h with
    | none => (match hi with | .nil => true | _ => false)
    | some h => (match hi with | .nil => false | _ => chkE hi sc h))
  | .lrg kk es, sc, .Call (.Name x _) [.Call (.Name y _) args [] _] [] _ => !T.hot && globB sc x "list" && T.free.contains x && rngB kk && itB T kk sc (.Name x default) y args && chkL es sc args
  | .trg kk es, sc, .Call (.Name x _) [.Call (.Name y _) args [] _] [] _ => !T.hot && globB sc x "tuple" && T.free.contains x && rngB kk && itB T kk sc (.Name x default) y args && chkL es sc args
  | .cmp1 vs tg it c elt, sc, .ListComp elt' [⟨tg', it', ifs, as⟩] scope _ => decide (as = 0) && compB N vs tg sc scope tg' it' && chkI it sc tg' it' && chkE elt (relS scope sc) elt' && cndB c ifs (chkE c (relS scope sc)) && !decide (T.lsc = some (relS scope sc).names)
  | .lam f e, sc, .Call (.Name x _) [.Lambda params body lsc _] [] _ => !T.hot && decide (T.lsc = some sc.names) && !decide (T.lsc = some lsc.names) && (match T.tel[f]? with
    | some y => globB sc x y
    | none => false) && noParB params && LamX.lamSB sc lsc && chkE e lsc body
  | .isx i c, sc, .Call (.Name x _) [.Name y _, .Name z _] [] _ => T.hot && globB sc x "isinstance" && T.free.contains x && nameB N sc i y && (match T.exc[c]? with
    | some n => globB sc z n
    | none => false)
  | .join a b, sc, .Call (.Attribute (.Constant (.str z) j cp) n ap) [y] [] pos => decide (n = "join") && (ap.endLine == pos.line) && chkE a sc (.Constant (.str z) j cp) && chkE b sc y && plainB y
  | .gcd a b, sc, .Call (.Name x _) [y, z] [] _ => T.gcd && globB sc x "gcd" && chkE a sc y && chkE b sc z && plainB y && plainB z
  | _, _, _ => false
def chkL : E → Scope → List Expr → Bool
  | .nil, _, [] => true
  | .cons a r, sc, x :: xs => chkE a sc x && plainB x && chkL r sc xs
  | _, _, _ => false
def chkI : E → Scope → Expr → Expr → Bool
  | .itr .plain (.cons e .nil), sc, _, ex => chkE e sc ex
  | .itr kk es, sc, tg, .Call (.Name x _) args [] _ => !T.hot && itB T kk sc tg x args && chkL es sc args
  | _, _, _, _ => false
end
end

/-- a def's promise: what PF's run of it gives -/
def spF (K : PySem.W.Frag) (fa : FA) (XR : XRt) (D : Den) (i : Nat) (md : List Bool) : Sp := fun vs H Q E => ∃ (F : Hp) (as : List Slot), as.length = md.length ∧ vs.length = md.length ∧
  (∀ j : Nat, (md[j]? = some false → ∃ u, as[j]? = some (.val u)) ∧ (md[j]? = some true → ∃ u, as[j]? = some (.own u true))) ∧ Sim K fa 0 F H (vs.map some) as ∧
  (match D i as with
  | .ok (w, os) => ∀ v F' H', Sim K fa 0 F' H' (vs.map some ++ [some v]) (os ++ [w]) → Stp F H (vs.map some) as F' H' (vs.map some ++ [some v]) (os ++ [w]) → os.length = as.length → Q v H'
  | .exc x os => ∀ F' H' cls d, Sim K fa 0 F' H' (vs.map some) os → Stp F H (vs.map some) as F' H' (vs.map some) os → XR F' H' x cls d → E cls d H'
  | .bad => False)
def veB : List Value := [.type "ValueError", .type "Exception", .type "BaseException", .type "object"]
/-- an answer that stands in every longer heap -/
def GrowQ (fa : FA) (Q : VK) (s : Str) (H : Hp) : Prop := LamX.Tabs fa.tabs H ∧ ∀ H' : Hp, LamX.ExtN H H' → LamX.Tabs fa.tabs H' → Q (.str s) H'
/-- what a teller makes of the lambda's reading -/
def tTel (G : Gx) (fa : FA) (i : Nat) (tl : XK → Hp → VK → Prop) : Hp → VK → Prop := fun H Q =>
  tl (fun cls d H' => ∃ c C u, fa.cls c = some C ∧ cls = .ref C ∧ d = none ∧ G.tel i (some ⟨c, []⟩) = some u ∧ GrowQ fa Q u H') H fun _ H' => ∃ u, G.tel i none = some u ∧ GrowQ fa Q u H'
/-- the def x calls what it got and tells which exception came -/
structure TelOk (prog : Program) (w : World) (K : PySem.W.Frag) (mg : Str → Option Value) (base : Heap) (G : Gx) (fa : FA) (i : Nat) (x : Str) (g : Addr) (pg : Arguments) (bg : List Stmt) (sg : Scope) (dV kV doc pm cdv ct oc : Value) (an od : Option Addr) (osl : Array (Option Value)) (Ng : List Str) (a : Str) : Prop where
  at_ : mg x = some (.ref g)
  keep : PySem.W.keepIn K (.ref g) = true
  lk : K.lookup g = some ⟨oc, od, .func (PySem.W.fnOf x x pg bg sg dV kV doc pm an cdv ct), osl⟩
  code : PySem.W.codeIn K cdv x = true
  bind : L2.Binds K (PySem.W.fnOf x x pg bg sg dV kV doc pm an cdv ct) [a] []
  sc : FnScope Ng [a] sg
  n0 : Ng[0]? = some a
  vis : Vis sg a
  dbg : (a == ("__debug__" : Str)) = false
  cdc : (a == ("__classdict__" : Str)) = false
  run : ∀ (A : Around) (outer : List Env) (f c : Addr) (s : Shared) (H : Hp) (Q : VK) (q : Str) (tl : XK → Hp → VK → Prop), Room 0 (A.deeper (envOfC x sg s.heap.objs.size g cdv)) →
    (∀ (W : WX) (pn : List (Addr × Obj)) (xe : Value → Shared → Prop) (E : XK) (p1 p2 : Pos), L2N.Takes ((cxOf C8.CX0 prog w K mg base Ng x sg g cdv A outer s H C8.E0).tr pn xe) W → (∀ cls d σ H', E cls d H' → W cls d σ H') →
      PE ((cxOf C8.CX0 prog w K mg base Ng x sg g cdv A outer s H C8.E0).tr pn xe) (.Call (.Name a p1) [] [] p2) (fun τ G Q => τ[0]? = some (some (.ref f)) ∧ G c = some (LamX.CodeO c q) ∧ tl E G Q)) →
    H c = some (LamX.CodeO c q) → tTel G fa i tl H Q →
    ∃ t, PSs (cxOf C8.CX0 prog w K mg base Ng x sg g cdv A outer s H C8.E0).nox bg t ∧ t { nx := fun _ H' => Q .non H', rt := Q } (L2.start Ng [.ref f]) H
/-- what the def at hand needs where it makes lambdas -/
structure LamOk (fa : FA) (k : Nat) (X : Cx) : Prop where
  tab : ∃ c P, LamX.TabB X.base X.mg c P ∧ X.env.code = .ref c ∧ (P, X.env.qual ++ "<lambda>") ∈ fa.tabs ∧ ∀ p ∈ fa.tabs, p.1 = P → p.2 = X.env.qual ++ "<lambda>"
  room1 : Room 1 X.A
  room2 : ∀ e1 e2, Room k ((X.A.deeper e1).deeper e2)
/-- the exception that is handled here -/
structure HotOk (G : Gx) (fa : FA) (X : Cx) (Y : Cx) (a C : Addr) (oe : Obj) (pn : List (Addr × Obj)) (D : Nat) : Prop where
  eq : X = Y.suite a ((a, oe) :: pn)
  z : L2N.Zn (.ref C) none oe
  fld : ∃ vs, oe.data = .fields vs
  f : fa hotN = some a
  hx : G.hx = some D
  cls : fa.cls D = some C
  exc : L2.ExcC X.K C
structure Amb (T : Tbl) (G : Gx) (fa : FA) (XR : XRt) (k : Nat) (W : WX) (X : Cx) : Prop where
  calm : T.hot = false → X.calm = true
  nd : X.N.Nodup
  room : T.hot = false → Room k X.A
  un : X.A.units + 65 < cLine
  takes : L2N.Takes X W
  free : ∀ x, T.free.contains x = true → X.mg x = none
  cst : ∀ (i : Nat) (x : Str), T.cst[i]? = some x → ∃ u val v, G.cst[i]? = some u ∧ X.mg x = some val ∧ RelV v val ∧ ∀ F, Rep X.K fa F v u
  fns : ∀ (i : Nat) (x : Str), T.fns[i]? = some x → ∃ f, fa i = some f ∧ X.mg x = some (.ref f) ∧ (T.hot = false → ∃ md, G.modes i = some md)
  md : T.hot = false → ∀ (i : Nat) (f : Addr), fa i = some f → ∃ md, G.modes i = some md
  exc : ∀ (c : Nat) (x : Str), T.exc[c]? = some x → ∃ C, fa.cls c = some C ∧ X.mg x = some (.ref C) ∧ PySem.W.excIn X.K C veB "ValueError.__new__" = true ∧ PySem.W.keepIn X.K (.ref C) = true ∧ Raises X (.ref C)
  xr : ∀ (F H : Hp) (c : Nat) (C : Addr), fa.cls c = some C → XR F H ⟨c, []⟩ (.ref C) none
  xrr : ∀ (F H : Hp) (x : Exn) (cls : Value) (d : Option Addr), XR F H x cls d → x.arg = [] ∧ ∃ C, fa.cls x.cls = some C ∧ cls = .ref C ∧ d = none
  gcd : T.gcd = true → X.mg "gcd" = some (.builtin "math.gcd")
  sub : ∀ (d c : Nat) (b : Bool) (C C' : Addr), fa.cls d = some C → fa.cls c = some C' → G.sub d c = some b → PySem.W.kitOne X.K (.ref C) (.ref C') = some b
  hotx : T.hot = true → ∃ Y a C oe pn D, HotOk G fa X Y a C oe pn D
  lamt : ∀ ns, T.lsc = some ns → X.env.scope.names = ns → LamOk fa k X
  tel : T.hot = false → ∀ (i : Nat) (x : Str), T.tel[i]? = some x → ∃ g pg bg sg dV kV doc pm cdv ct oc an od osl Ng a, TelOk X.prog X.w X.K X.mg X.base G fa i x g pg bg sg dV kV doc pm cdv ct oc an od osl Ng a
  ok : T.hot = false → ∀ (i : Nat) (f : Addr), fa i = some f → ∀ md, G.modes i = some md → ∃ fd ps, PySem.W.keepIn X.K (.ref f) = true ∧ Binds X.K fd ps [] ∧ FnOk X.prog X.w X.K X.mg X.base (L2N.CX X.prog X.w) k f fd ps (spF X.K fa XR G.den i md)

section
variable (T : Tbl) (G : Gx) (fa : FA) (XR : XRt) (k : Nat)
def tEv (W : WX) (X : Cx) (e : E) : TE := fun σ H Q => ∃ F env, σ.length = X.N.length ∧ Sim X.K fa X.N.length F H σ env ∧ Out X.K fa XR W X.N.length (fun w => [w]) F H σ env (evE G e env) (fun _ vs H' => ∃ v, vs = [v] ∧ Q v H')
def tEvL (W : WX) (X : Cx) (e : E) : TA := fun σ H Q => ∃ F env, σ.length = X.N.length ∧ Sim X.K fa X.N.length F H σ env ∧ Out X.K fa XR W X.N.length (fun ws => ws) F H σ env (evL G e env) (fun _ vs H' => Q vs H')
def evT (e : E) (env : En) : Res (Bool × En) := (evE G e env).bind fun (p, env) => (Res.of (look env p)).bind fun u => (Res.of u.tru).bind fun k => .ok (k, env)
def tEvT (W : WX) (X : Cx) (e : E) : TT := fun σ H Q => ∃ F env, σ.length = X.N.length ∧ Sim X.K fa X.N.length F H σ env ∧ Out X.K fa XR W X.N.length (fun _ => []) F H σ env (evT G e env) (fun b _ H' => Q b H')
def OkE (e : E) : Prop := ∀ (X : Cx) (W : WX), Amb T G fa XR k W X → ∀ ex, chkE T X.N e X.env.scope ex = true → PE X ex (tEv G fa XR W X e)
def OkT (e : E) : Prop := ∀ (X : Cx) (W : WX), Amb T G fa XR k W X → ∀ ex, chkE T X.N e X.env.scope ex = true → PT X ex (tEvT G fa XR W X e)
def OkW (e : E) : Prop := ∀ (X : Cx) (W : WX), Amb T G fa XR k W X → ∀ op xs p, chkE T X.N e X.env.scope (.BoolOp op xs p) = true → PW X (.BoolOp op xs p) (tEvT G fa XR W X e)
def OkL (e : E) : Prop := ∀ (X : Cx) (W : WX), Amb T G fa XR k W X → ∀ exs, chkL T X.N e X.env.scope exs = true → PA X exs (tEvL G fa XR W X e)
end
theorem PE.imp {X : Cx} {e : Expr} {t t' : TE} (h : PE X e t) (i : ∀ σ H Q, t' σ H Q → t σ H Q) : PE X e t' := ⟨fun pins s σ H Q I q => h.run pins s σ H Q I (i σ H Q q)⟩
theorem PT.imp {X : Cx} {e : Expr} {t t' : TT} (h : PT X e t) (i : ∀ σ H Q, t' σ H Q → t σ H Q) : PT X e t' := ⟨fun pins s σ H Q I q => h.run pins s σ H Q I (i σ H Q q)⟩
theorem PW.imp {X : Cx} {e : Expr} {t t' : TT} (h : PW X e t) (i : ∀ σ H Q, t' σ H Q → t σ H Q) : PW X e t' := ⟨fun wh pins s σ H Q I q => h.run wh pins s σ H Q I (i σ H Q q)⟩
theorem PA.imp {X : Cx} {e : List Expr} {t t' : TA} (h : PA X e t) (i : ∀ σ H Q, t' σ H Q → t σ H Q) : PA X e t' := ⟨fun pos pins s σ H Q I q => h.run pos pins s σ H Q I (i σ H Q q)⟩
section
variable {T : Tbl} {G : Gx} {fa : FA} {XR : XRt} {k : Nat} {W : WX} {X : Cx} {σ : L2.St} {H : Hp} {F : Hp} {env : En}
/-- one operand, then the rest -/
theorem ev1 {β : Type} {a : E} {F0 H0 : Hp} {env0 : En} {sh' : β → List Slot} {kk : Slot × En → Res (β × En)} {Q : β → List V → Hp → Prop} (hn : σ.length = X.N.length) (S : Sim X.K fa X.N.length F H σ env) (st : Stp F0 H0 σ env0 F H σ env)
    (h : Out X.K fa XR W X.N.length sh' F0 H0 σ env0 ((evE G a env).bind kk) Q) : tEv G fa XR W X a σ H fun x H1 => ∃ F1 env1 p, evE G a env = .ok (p, env1) ∧ Sim X.K fa X.N.length F1 H1 (σ ++ [some x]) (env1 ++ [p]) ∧
      Stp F H σ env F1 H1 (σ ++ [some x]) (env1 ++ [p]) ∧ env1.length = X.N.length := by
  refine ⟨F, env, hn, S, (Out.sub (sh := fun w => [w]) h st).imp fun p vs H1 ⟨F1, env1, e1, S1, st1, hl⟩ => ?_⟩
  have e := S1.len
  simp only [List.length_append, List.length_map, List.length_singleton] at e
  obtain ⟨v, rfl⟩ : ∃ v, vs = [v] := List.length_eq_one_iff.mp (by omega)
  exact ⟨v, rfl, F1, env1, p, e1, S1, st1, hl⟩
/-- two operands, then the rest -/
theorem ev2 {β : Type} {a b : E} {F0 H0 : Hp} {env0 : En} {sh' : β → List Slot} {k1 : Slot × En → Res (β × En)} {Q : β → List V → Hp → Prop} (hn : σ.length = X.N.length) (S : Sim X.K fa X.N.length F H σ env) (st : Stp F0 H0 σ env0 F H σ env)
    (h : Out X.K fa XR W X.N.length sh' F0 H0 σ env0 ((evE G a env).bind k1) Q) (hk : ∀ z, ∃ kk : Slot × En → Res (β × En), k1 z = (evE G b z.2).bind kk) : tEv G fa XR W X a σ H fun x H1 => tEv G fa XR W X b σ H1 fun y H2 => ∃ F2 env1 env2 p q, evE G a env = .ok (p, env1) ∧ evE G b env1 = .ok (q, env2) ∧
      Sim X.K fa X.N.length F2 H2 (σ ++ [some x, some y]) (env2 ++ [p, q]) ∧ env2.length = X.N.length ∧ Stp F H σ env F2 H2 (σ ++ [some x, some y]) (env2 ++ [p, q]) := by
  obtain ⟨F0', env0', h0, S0, o⟩ := ev1 hn S st h
  refine ⟨F0', env0', h0, S0, o.imp fun _ vs H1 ⟨x, e, F1, env1, p, e1, S1, st1, l1⟩ => ⟨x, e, ?_⟩⟩
  rw [e1, Res.bind_ok] at h
  obtain ⟨kk, hk⟩ := hk (p, env1)
  rw [hk] at h
  obtain ⟨F0'', env0'', h0', S0', o'⟩ := ev1 (a := b) hn (S1.head (by omega) (by omega)) (st.trans (st1.head (by omega) (by have := S.len; omega))) h
  refine ⟨F0'', env0'', h0', S0', o'.imp fun _ ws H2 ⟨y, e', F2, env2, q, e2, S2, st2, l2⟩ => ⟨y, e', F2, env1, env2, p, q, e1, e2, ?_⟩⟩
  obtain ⟨S3, st3⟩ := frame (τ := [some x]) (ws := [p]) S1 hn l1 l2 S2 st2
  exact ⟨S3, l2, st1.trans st3⟩
end
end PF
end
section
set_option Elab.async false
set_option autoImplicit false
set_option linter.all false
set_option maxRecDepth 100000
namespace PF
open PySem PySem.Spec PyProof.Rows L2

section
variable {T : Tbl} {N : List Str} {sc : Scope}
theorem nameB_of {i : Nat} {x : Str} (h : nameB N sc i x = true) : N[i]? = some x ∧ Vis sc x ∧ (x == ("__debug__" : Str)) = false ∧ (x == ("__classdict__" : Str)) = false := by
  unfold nameB at h
  simp only [Bool.and_eq_true, decide_eq_true_eq, Bool.not_eq_true'] at h
  obtain ⟨⟨⟨h1, h2⟩, h3⟩, h4⟩ := h
  refine ⟨h1, ?_, h3, h4⟩
  unfold visB at h2
  split at h2
  · exact .inl (by assumption)
  · exact .inr (.inl (by assumption))
  · exact .inr (.inr (by assumption))
  · cases h2
theorem globB_of {x y : Str} (h : globB sc x y = true) : x = y ∧ sc.names.lookup x = some .globalImplicit ∧ (x == ("__debug__" : Str)) = false ∧ x ≠ "__name__" := by
  unfold globB gloB at h
  simp only [Bool.and_eq_true, decide_eq_true_eq, Bool.not_eq_true', decide_eq_false_iff_not] at h
  obtain ⟨⟨⟨h1, h2⟩, h3⟩, h4⟩ := h
  exact ⟨h1, h2, h3, h4⟩
theorem star_cons {x : Expr} {xs : List Expr} {env : Env} (h : plainB x = true) : starEach (x :: xs) env = (false, eval x env) :: starEach xs env := by
  cases x <;> first | rfl | cases h
theorem plain_ix {x : Expr} (h : plainB x = true) : PlainIx x := by
  cases x <;> first | (intro o i; rfl) | cases h
theorem plain_mark {x : Expr} (op : CmpOp) (h : plainB x = true) : behindInMarks op x = false := by
  cases x <;> first | rfl | cases h
/-- the elements of the argument list are plain -/
theorem chkL_plain : ∀ (e : E) {xs : List Expr} {env : Env} {pos : Pos}, chkL T N e sc xs = true → (backTo pos (starEach xs env)).any (·.1) = false := by
  intro e
  induction e with
  | nil =>
    intro xs env pos h
    cases xs with
    | nil => rfl
    | cons x xs => simp [chkL] at h
  | cons a r iha ihr =>
    intro xs env pos h
    cases xs with
    | nil => simp [chkL] at h
    | cons x xs =>
      simp only [chkL, Bool.and_eq_true] at h
      rw [star_cons h.1.2]
      have := ihr (env := env) (pos := pos) h.2
      simpa [backTo] using this
  | _ => intro xs env pos h; cases xs <;> simp [chkL] at h
end

section
variable {K : PySem.W.Frag} {fa : FA} {n : Nat} {F H : Hp} {σ : L2.St} {env : En} {i : Nat} {s : Slot} {u : U} {v : V}
theorem one_at {α : Type} {x y : α} {i : Nat} (e : [x][i]? = some y) : i = 0 ∧ y = x := by
  cases i with
  | zero => simp at e; exact ⟨rfl, e.symm⟩
  | succ i => simp at e
theorem Sim.bor (S : Sim K fa n F H σ env) (hne : n ≤ env.length) (hn : i < n) (h : σ[i]? = some (some v)) : Sim K fa n F H (σ ++ [some v]) (env ++ [.bor i]) ∧ Stp F H σ env F H (σ ++ [some v]) (env ++ [.bor i]) := by
  have hl := S.len
  have no : ∀ (j : Nat) (u : U) (p : Bool), (env ++ [Slot.bor i])[j]? = some (.own u p) → env[j]? = some (.own u p) ∧ j < env.length := fun j u p e => by
    by_cases c : j < env.length
    · rw [getL c] at e; exact ⟨e, c⟩
    · rw [getR (by omega)] at e
      cases (one_at e).2
  refine ⟨⟨by simp [hl], S.fr, fun j s e => ?_, fun j k a u u' p p' e1 e2 e3 e4 => ?_, S.tab, S.fnt⟩, ⟨.refl _, fun _ _ e _ _ => e, fun a ⟨j, u, p, e1, e2⟩ => ?_, fun _ _ e => .inl e, fun j u e => ?_⟩⟩
  · by_cases c : j < env.length
    · rw [getL c] at e
      refine (S.slot j s e).move (.refl _) (getL (by omega)) (fun k e2 => ?_) fun _ _ _ _ _ _ a b => ⟨a, b⟩
      subst e2
      obtain ⟨_, y, q1, q2⟩ := S.slot j _ e
      exact getL (ltOf q2)
    · rw [getR (by omega)] at e
      obtain ⟨h0, rfl⟩ := one_at e
      refine ⟨⟨hn, by omega⟩, v, ?_, (getL (ltOf h)).trans h⟩
      have : j = σ.length := by omega
      subst this
      rw [getR (Nat.le_refl _)]
      simp
  · obtain ⟨q1, c1⟩ := no j u p e1
    obtain ⟨q2, c2⟩ := no k u' p' e2
    rw [getL (by omega)] at e3
    rw [getL (by omega)] at e4
    exact S.inj j k a u u' p p' q1 q2 e3 e4
  · obtain ⟨q1, c1⟩ := no j u p e1
    rw [getL (by omega)] at e2
    exact .inl ⟨j, u, p, q1, e2⟩
  · have c := ltOf e
    exact ⟨getL (by omega), u, (getL c).trans e⟩
theorem Sim.mov {a : Addr} (S : Sim K fa n F H σ env) (h : env[i]? = some (.own u false)) (h2 : σ[i]? = some (some (.ref a))) : Sim K fa n F H (σ ++ [some (.ref a)]) (env.set i .emp ++ [.own u false]) ∧ Stp F H σ env F H (σ ++ [some (.ref a)]) (env.set i .emp ++ [.own u false]) := by
  have hl := S.len
  have hi := ltOf h
  -- every own place is an old one, and unlike places are of unlike old ones
  have old : ∀ (j : Nat) (u' : U) (p : Bool) (b : Addr), (env.set i .emp ++ [Slot.own u false])[j]? = some (.own u' p) → (σ ++ [some (V.ref a)])[j]? = some (some (.ref b)) →
      ∃ j', env[j']? = some (.own u' p) ∧ σ[j']? = some (some (.ref b)) ∧ ((j < env.length ∧ j' = j ∧ j ≠ i) ∨ (j = env.length ∧ j' = i)) := fun j u' p b e1 e2 => by
    by_cases c : j < env.length
    · rw [getL (by rw [List.length_set]; exact c)] at e1
      rw [getL (by omega)] at e2
      by_cases d : i = j
      · subst d; rw [List.getElem?_set_self hi] at e1; cases e1
      · rw [List.getElem?_set_ne d] at e1
        exact ⟨j, e1, e2, .inl ⟨c, rfl, fun z => d z.symm⟩⟩
    · rw [getR (by rw [List.length_set]; omega), List.length_set] at e1
      obtain ⟨h0, q⟩ := one_at e1
      cases q
      rw [getR (by omega)] at e2
      obtain ⟨_, q⟩ := one_at e2
      cases q
      exact ⟨i, h, h2, .inr ⟨by omega, rfl⟩⟩
  refine ⟨⟨by simp [hl], S.fr, fun j s e => ?_, fun j k b u1 u2 p p' e1 e2 e3 e4 => ?_, S.tab, S.fnt⟩, ⟨.refl _, fun _ _ e _ _ => e, fun b ⟨j, u', p, e1, e2⟩ => ?_, fun _ _ e => .inl e, fun j u' e => ?_⟩⟩
  · by_cases c : j < env.length
    · rw [getL (by rw [List.length_set]; exact c)] at e
      by_cases d : i = j
      · subst d; rw [List.getElem?_set_self hi] at e; cases e; exact True.intro
      · rw [List.getElem?_set_ne d] at e
        refine (S.slot j s e).move (.refl _) (getL (by omega)) (fun k e2 => ?_) fun _ _ _ _ _ _ a b => ⟨a, b⟩
        subst e2
        obtain ⟨_, y, q1, q2⟩ := S.slot j _ e
        exact getL (ltOf q2)
    · rw [getR (by rw [List.length_set]; omega), List.length_set] at e
      obtain ⟨h0, rfl⟩ := one_at e
      have hj : j = σ.length := by omega
      subst hj
      obtain ⟨b, o, q1, q2, q3, q4⟩ := S.slot i _ h
      rw [h2] at q1
      cases q1
      exact ⟨a, o, by rw [getR (Nat.le_refl _)]; simp, q2, q3, q4⟩
  · obtain ⟨j', x1, x2, x3⟩ := old j u1 p b e1 e3
    obtain ⟨k', y1, y2, y3⟩ := old k u2 p' b e2 e4
    have := S.inj j' k' b u1 u2 p p' x1 y1 x2 y2
    omega
  · obtain ⟨j', x1, x2, _⟩ := old j u' p b e1 e2
    exact .inl ⟨j', u', p, x1, x2⟩
  · have c := ltOf e
    refine ⟨getL (by omega), u', ?_⟩
    rw [getL (by rw [List.length_set]; exact c), List.getElem?_set_ne (fun z => by subst z; rw [h] at e; cases e)]
    exact e
end

section
variable {T : Tbl} {G : Gx} {fa : FA} {XR : XRt} {k : Nat}
theorem chk_var {N : List Str} {sc : Scope} {i : Nat} {ex : Expr} (h : chkE T N (.var i) sc ex = true) : ∃ x p, ex = .Name x p ∧ nameB N sc i x = true := by
  cases ex <;> first | exact ⟨_, _, rfl, by simpa [chkE] using h⟩ | (simp [chkE] at h)
theorem chk_bor {N : List Str} {sc : Scope} {i : Nat} {ex : Expr} (h : chkE T N (.bor i) sc ex = true) : ∃ x p, ex = .Name x p ∧ nameB N sc i x = true := by
  cases ex <;> first | exact ⟨_, _, rfl, by simpa [chkE] using h⟩ | (simp [chkE] at h)
theorem chk_mov {N : List Str} {sc : Scope} {i : Nat} {ex : Expr} (h : chkE T N (.mov i) sc ex = true) : ∃ x p, ex = .Name x p ∧ nameB N sc i x = true := by
  cases ex <;> first | exact ⟨_, _, rfl, by simpa [chkE] using h⟩ | (simp [chkE] at h)
theorem ok_var (i : Nat) : OkE T G fa XR k (.var i) := fun X W A ex h => by
  obtain ⟨x, p, rfl, h⟩ := chk_var h
  obtain ⟨h1, h2, h3, h4⟩ := nameB_of h
  refine PE.imp (pe_var h1 h2 h3 h4) fun σ H Q ⟨F, env, hn, S, o⟩ => ?_
  simp only [evE] at o
  cases e : env[i]? with
  | none => rw [e] at o; exact o.elim
  | some s =>
    rw [e] at o
    cases s with
    | emp => exact o.elim
    | bor _ => exact o.elim
    | val u =>
      obtain ⟨v, q1, q2⟩ := S.slot i _ e
      refine ⟨v, q1, ?_⟩
      obtain ⟨v', e', q⟩ := Out.post S (.refl _ _ _ _) (S.len.symm.trans hn) o (.val S.fr q2)
      cases e'
      exact q
    | own u p =>
      cases p with
      | true => exact o.elim
      | false =>
        obtain ⟨F', S', St'⟩ := S.freeze e
        obtain ⟨v, q1, q2⟩ := S'.slot i (.val u) (List.getElem?_set_self (ltOf e))
        refine ⟨v, q1, ?_⟩
        obtain ⟨v', e', q⟩ := Out.post S' St' (by rw [List.length_set]; exact S.len.symm.trans hn) o (.val S'.fr q2)
        cases e'
        exact q
theorem ok_bor (i : Nat) : OkE T G fa XR k (.bor i) := fun X W A ex h => by
  obtain ⟨x, p, rfl, h⟩ := chk_bor h
  obtain ⟨h1, h2, h3, h4⟩ := nameB_of h
  refine PE.imp (pe_var h1 h2 h3 h4) fun σ H Q ⟨F, env, hn, S, o⟩ => ?_
  have hi : i < X.N.length := ltOf h1
  simp only [evE] at o
  have fin : ∀ v, σ[i]? = some (some v) → Out X.K fa XR W X.N.length (fun w => [w]) F H σ env (.ok (.bor i, env)) (fun _ vs H' => ∃ v, vs = [v] ∧ Q v H') → Q v H := fun v q o => by
    obtain ⟨S1, st1⟩ := S.bor (by have := S.len; omega) hi q
    obtain ⟨v', e', q⟩ := o [v] F H S1 st1 (S.len.symm.trans hn)
    cases e'
    exact q
  cases e : env[i]? with
  | none => rw [e] at o; exact o.elim
  | some s =>
    rw [e] at o
    cases s with
    | emp => exact o.elim
    | bor _ => exact o.elim
    | val u =>
      obtain ⟨v, q1, q2⟩ := S.slot i _ e
      exact ⟨v, q1, fin v q1 o⟩
    | own u p =>
      obtain ⟨a, ob, q1, q2⟩ := S.slot i _ e
      exact ⟨_, q1, fin _ q1 o⟩
theorem ok_mov (i : Nat) : OkE T G fa XR k (.mov i) := fun X W A ex h => by
  obtain ⟨x, p, rfl, h⟩ := chk_mov h
  obtain ⟨h1, h2, h3, h4⟩ := nameB_of h
  refine PE.imp (pe_var h1 h2 h3 h4) fun σ H Q ⟨F, env, hn, S, o⟩ => ?_
  simp only [evE] at o
  cases e : env[i]? with
  | none => rw [e] at o; exact o.elim
  | some s =>
    rw [e] at o
    cases s with
    | emp => exact o.elim
    | bor _ => exact o.elim
    | val u =>
      obtain ⟨v, q1, q2⟩ := S.slot i _ e
      refine ⟨v, q1, ?_⟩
      obtain ⟨v', e', q⟩ := Out.post S (.refl _ _ _ _) (S.len.symm.trans hn) o (.val S.fr q2)
      cases e'
      exact q
    | own u p =>
      cases p with
      | true => exact o.elim
      | false =>
        obtain ⟨a, ob, q1, _⟩ := S.slot i _ e
        obtain ⟨S1, st1⟩ := S.mov e q1
        obtain ⟨v', e', q⟩ := o [.ref a] F H S1 st1 (by rw [List.length_set]; exact S.len.symm.trans hn)
        cases e'
        exact ⟨_, q1, q⟩
theorem conB_of {u : U} {c : Const} (h : conB u c = true) : (u = .non ∧ c = .none) ∨ (∃ b, u = .bl b ∧ c = .bool b) ∨ (∃ i, u = .int i ∧ c = .int i) ∨ ∃ x, u = .str x ∧ c = .str x := by
  cases u <;> cases c <;> first | (simp [conB] at h; done) | skip
  · exact .inl ⟨rfl, rfl⟩
  · simp only [conB, beq_iff_eq] at h; subst h; exact .inr (.inl ⟨_, rfl, rfl⟩)
  · simp only [conB, decide_eq_true_eq] at h; subst h; exact .inr (.inr (.inl ⟨_, rfl, rfl⟩))
  · simp only [conB, decide_eq_true_eq] at h; subst h; exact .inr (.inr (.inr ⟨_, rfl, rfl⟩))
/-- a value that needs no run -/
theorem const_ok {X : Cx} {W : WX} {ex : Expr} {e : E} {u : U} {v : V} (h : PE X ex (tC v)) (he : ∀ env, evE G e env = .ok (.val u, env)) (r : ∀ F, Rep X.K fa F v u) : PE X ex (tEv G fa XR W X e) := by
  refine PE.imp h fun σ H Q ⟨F, env, hn, S, o⟩ => ?_
  rw [he] at o
  obtain ⟨v', e', q⟩ := Out.post S (.refl _ _ _ _) (S.len.symm.trans hn) o (.val S.fr (r F))
  cases e'
  exact q
theorem ok_con (u : U) : OkE T G fa XR k (.con u) := fun X W A ex h => by
  cases ex <;> first | (simp [chkE] at h; done) | skip
  rename_i c j p
  simp only [chkE] at h
  rcases conB_of h with ⟨rfl, rfl⟩ | ⟨b, rfl, rfl⟩ | ⟨b, rfl, rfl⟩ | ⟨b, rfl, rfl⟩
  · exact const_ok pe_non (fun _ => rfl) fun _ => .non
  · exact const_ok pe_bl (fun _ => rfl) fun _ => .bl _
  · exact const_ok pe_int (fun _ => rfl) fun _ => .int _
  · exact const_ok pe_str (fun _ => rfl) fun _ => .str _
theorem ok_glc (i : Nat) : OkE T G fa XR k (.glc i) := fun X W A ex h => by
  cases ex <;> first | (simp [chkE] at h; done) | skip
  rename_i x p
  simp only [chkE] at h
  split at h
  · rename_i y hy
    obtain ⟨rfl, h2, h3, h4⟩ := globB_of h
    obtain ⟨u, val, v, q1, q2, q3, q4⟩ := A.cst i _ hy
    exact const_ok (pe_glob h2 q2 q3 h3) (fun env => by simp only [evE, q1, Res.of_some, Res.bind_ok]) q4
  · cases h
theorem ok_fnr (i : Nat) : OkE T G fa XR k (.fnr i) := fun X W A ex h => by
  cases ex <;> first | (simp [chkE] at h; done) | skip
  rename_i x p
  simp only [chkE] at h
  split at h
  · rename_i y hy
    obtain ⟨rfl, h2, h3, h4⟩ := globB_of h
    obtain ⟨f, q1, q2, _⟩ := A.fns i _ hy
    exact const_ok (v := .ref f) (pe_glob h2 q2 rfl h3) (fun env => rfl) fun _ => .fn q1
  · cases h

theorem ok_nilL : OkL T G fa XR k .nil := fun X W A exs h => by
  cases exs with
  | cons x xs => simp [chkL] at h
  | nil =>
    refine PA.imp pa_nil fun σ H Q ⟨F, env, hn, S, o⟩ => ?_
    exact o [] F H (by simpa using S) (by simpa using Stp.refl _ _ _ _) (S.len.symm.trans hn)
theorem ok_consL {a r : E} (ha : OkE T G fa XR k a) (hr : OkL T G fa XR k r) : OkL T G fa XR k (.cons a r) := fun X W A exs h => by
  cases exs with
  | nil => simp [chkL] at h
  | cons x xs =>
    simp only [chkL, Bool.and_eq_true] at h
    refine PA.imp (pa_cons (ha X W A x h.1.1) (hr X W A xs h.2) (star_cons h.1.2)) fun σ H Q ⟨F, env, hn, S, o⟩ => ?_
    simp only [evL] at o
    obtain ⟨F0, env0, h0, S0, o0⟩ := ev1 hn S (.refl _ _ _ _) o
    refine ⟨F0, env0, h0, S0, o0.imp fun _ vs H1 ⟨v, e, F1, env1, p, e1, S1, st1, l1⟩ => ⟨v, e, F1, env1, hn, S1.head (by omega) (by omega), ?_⟩⟩
    rw [e1, Res.bind_ok] at o
    refine (Out.sub (sh := fun ws => ws) o (st1.head (by omega) (by have := S.len; omega))).imp fun ws us H2 ⟨F2, env2, e2, S2, st2, l2⟩ => ?_
    obtain ⟨S3, st3⟩ := frame (τ := [some v]) (ws := [p]) S1 hn l1 l2 S2 st2
    simp only [e2, Res.bind_ok] at o
    exact o (v :: us) F2 H2 (by simpa using S3) (st1.trans (by simpa using st3)) l2
end
end PF
end
section
set_option Elab.async false
set_option autoImplicit false
set_option linter.all false
set_option maxRecDepth 100000
namespace PF
open PySem PySem.Spec PyProof.Rows L2

section
variable {T : Tbl} {G : Gx} {fa : FA} {XR : XRt} {k : Nat} {W : WX} {X : Cx} {σ : L2.St} {H : Hp} {F : Hp} {env : En}
/-- an argument list, then the rest -/
theorem evl {β : Type} {a : E} {F0 H0 : Hp} {env0 : En} {sh' : β → List Slot} {kk : List Slot × En → Res (β × En)} {Q : β → List V → Hp → Prop} (hn : σ.length = X.N.length) (S : Sim X.K fa X.N.length F H σ env) (st : Stp F0 H0 σ env0 F H σ env)
    (h : Out X.K fa XR W X.N.length sh' F0 H0 σ env0 ((evL G a env).bind kk) Q) : tEvL G fa XR W X a σ H fun vs H1 => ∃ F1 env1 ws, evL G a env = .ok (ws, env1) ∧ Sim X.K fa X.N.length F1 H1 (σ ++ vs.map some) (env1 ++ ws) ∧
      Stp F H σ env F1 H1 (σ ++ vs.map some) (env1 ++ ws) ∧ env1.length = X.N.length :=
  ⟨F, env, hn, S, (Out.sub (sh := fun w => w) h st).imp fun p vs H1 ⟨F1, env1, e1, S1, st1, hl⟩ => ⟨F1, env1, p, e1, S1, st1, hl⟩⟩
theorem len_side {K : PySem.W.Frag} {n : Nat} {vs : List V} {ws : En} (S : Sim K fa n F H (σ ++ vs.map some) (env ++ ws)) (hl : σ.length = env.length) : vs.length = ws.length := by
  have := S.len
  simp only [List.length_append, List.length_map] at this
  omega
/-- the values on the side frozen; the def's own places stay -/
theorem freeze_side {K : PySem.W.Frag} {n : Nat} {vs : List V} {ws : En} {us : List U} (S : Sim K fa n F H (σ ++ vs.map some) (env ++ ws)) (hl : σ.length = env.length) (h : frzs ws = some us) :
    ∃ F', Sim K fa n F' H (σ ++ vs.map some) (env ++ us.map .val) ∧ Stp F H (σ ++ vs.map some) (env ++ ws) F' H (σ ++ vs.map some) (env ++ us.map .val) ∧ RepAll K fa F' vs us := by
  obtain ⟨F', S', st⟩ := frzs_all S h
  exact ⟨F', S', st, vals_rep S' hl ((len_side S hl).trans (frzs_length h))⟩

theorem ok_tup {es : E} (h : OkL T G fa XR k es) : OkE T G fa XR k (.tup es) := fun X W A ex hc => by
  cases ex <;> first | (simp [chkE] at hc; done) | skip
  rename_i xs j p
  simp only [chkE] at hc
  refine PE.imp (pe_tup (h X W A xs hc)) fun σ H Q ⟨F, env, hn, S, o⟩ => ?_
  simp only [evE] at o
  obtain ⟨F0, env0, h0, S0, o0⟩ := evl hn S (.refl _ _ _ _) o
  refine ⟨F0, env0, h0, S0, o0.imp fun _ vs H1 ⟨F1, env1, ws, e1, S1, st1, l1⟩ => ?_⟩
  simp only [e1, Res.bind_ok] at o
  obtain ⟨us, e2, o⟩ := Out.of o
  obtain ⟨F2, S2, st2, r⟩ := freeze_side S1 (by omega) e2
  have hl := r.length
  have hln := S.len
  by_cases c : us.length ≤ sizeLine
  · simp only [c, if_true] at o
    refine ⟨by omega, fun p' hp => ?_⟩
    have S3 := S2.head (by omega) (by omega)
    obtain ⟨v', e', q⟩ := Out.post S3 ((st1.trans st2).head (by omega) (by omega)) l1 o (.tup S3.fr hp r)
    cases e'
    exact q
  · simp only [c, if_false] at o
    exact o.elim
theorem ok_lst {es : E} (h : OkL T G fa XR k es) : OkE T G fa XR k (.lst es) := fun X W A ex hc => by
  cases ex <;> first | (simp [chkE] at hc; done) | skip
  rename_i xs p
  simp only [chkE] at hc
  refine PE.imp (pe_lst (h X W A xs hc)) fun σ H Q ⟨F, env, hn, S, o⟩ => ?_
  simp only [evE] at o
  obtain ⟨F0, env0, h0, S0, o0⟩ := evl hn S (.refl _ _ _ _) o
  refine ⟨F0, env0, h0, S0, o0.imp fun _ vs H1 ⟨F1, env1, ws, e1, S1, st1, l1⟩ => ?_⟩
  simp only [e1, Res.bind_ok] at o
  obtain ⟨us, e2, o⟩ := Out.of o
  obtain ⟨F2, S2, st2, r⟩ := freeze_side S1 (by omega) e2
  have hl := r.length
  have hln := S.len
  by_cases c : us.length ≤ sizeLine
  · simp only [c, if_true] at o
    refine ⟨by omega, fun p' hp => ?_⟩
    have S3 := S2.head (by omega) (by omega)
    obtain ⟨v', e', q⟩ := Out.post S3 ((st1.trans st2).head (by omega) (by omega)) l1 o (.own S3.fr hp (.lst r))
    cases e'
    exact q
  · simp only [c, if_false] at o
    exact o.elim
theorem ok_dic0 : OkE T G fa XR k .dic0 := fun X W A ex hc => by
  cases ex <;> first | (simp [chkE] at hc; done) | skip
  rename_i ks vs p
  cases ks <;> cases vs <;> first | (simp [chkE] at hc; done) | skip
  refine PE.imp pe_dnewK fun σ H Q ⟨F, env, hn, S, o⟩ => ?_
  intro p' hp
  obtain ⟨v', e', q⟩ := Out.post S (.refl _ _ _ _) (S.len.symm.trans hn) o (.own S.fr hp (.dic .nil))
  cases e'
  exact q

theorem ok_bin {op : BOp} {a b : E} (ha : OkE T G fa XR k a) (hb : OkE T G fa XR k b) : OkE T G fa XR k (.bin op a b) := fun X W A ex hc => by
  cases ex <;> first | (simp [chkE] at hc; done) | skip
  rename_i x o y p
  simp only [chkE, Bool.and_eq_true, decide_eq_true_eq] at hc
  obtain ⟨⟨rfl, h1⟩, h2⟩ := hc
  refine PE.imp (pe_op (op_ok (fa := fa) op) (ha X W A x h1) (hb X W A y h2)) fun σ H Q ⟨F, env, hn, S, o⟩ => ?_
  simp only [evE] at o
  obtain ⟨F0, env0, h0, S0, o0⟩ := ev2 (a := a) (b := b) hn S (.refl _ _ _ _) o fun _ => ⟨_, rfl⟩
  refine ⟨F0, env0, h0, S0, o0.imp fun _ _ _ ⟨u, e, F3, env3, h3, S3, o3⟩ => ⟨u, e, F3, env3, h3, S3, o3.imp fun _ _ H2 ⟨v, e', F2, env1, env2, p, q, e1, e2, S2, l2, st2⟩ => ⟨v, e', ?_⟩⟩⟩
  simp only [e1, e2, Res.bind_ok] at o
  obtain ⟨u1, k1, o⟩ := Out.of o
  obtain ⟨u2, k2, o⟩ := Out.of o
  obtain ⟨w, k3, o⟩ := Out.of o
  have hln := S.len
  refine ⟨F2, u1, u2, w, S2.fr, look_rep (j := 0) S2 (by omega) (by omega) rfl rfl k1, look_rep (j := 1) S2 (by omega) (by omega) rfl rfl k2, k3, fun v' F' H' P => ?_⟩
  obtain ⟨v'', e'', q⟩ := Out.post (S2.head (by omega) (by omega)) (st2.head (by omega) (by omega)) l2 o P
  cases e''
  exact q
theorem ok_neg {a : E} (ha : OkE T G fa XR k a) : OkE T G fa XR k (.neg a) := fun X W A ex hc => by
  cases ex <;> first | (simp [chkE] at hc; done) | skip
  rename_i o x p
  cases o <;> first | (simp [chkE] at hc; done) | skip
  simp only [chkE] at hc
  refine PE.imp (pe_un un_neg (ha X W A x hc)) fun σ H Q ⟨F, env, hn, S, o⟩ => ?_
  simp only [evE] at o
  obtain ⟨F0, env0, h0, S0, o0⟩ := ev1 (a := a) hn S (.refl _ _ _ _) o
  refine ⟨F0, env0, h0, S0, o0.imp fun _ _ H1 ⟨v, e, F1, env1, p, e1, S1, st1, l1⟩ => ⟨v, e, ?_⟩⟩
  have hln := S.len
  simp only [e1, Res.bind_ok] at o
  split at o
  · rename_i i k1
    have b := look_rep (j := 0) S1 (by omega) (by omega) rfl rfl k1
    cases b.int
    refine ⟨i, rfl, ?_⟩
    have S2 := S1.head (by omega) (by omega)
    obtain ⟨v', e', q⟩ := Out.post S2 (st1.head (by omega) (by omega)) l1 o (.val S2.fr (.int _))
    cases e'
    exact q
  · exact o.elim
theorem ok_not {a : E} (ha : OkE T G fa XR k a) : OkE T G fa XR k (.not a) := fun X W A ex hc => by
  cases ex <;> first | (simp [chkE] at hc; done) | skip
  rename_i o x p
  cases o <;> first | (simp [chkE] at hc; done) | skip
  simp only [chkE] at hc
  refine PE.imp (pe_notT (ha X W A x hc)) fun σ H Q ⟨F, env, hn, S, o⟩ => ?_
  simp only [evE] at o
  obtain ⟨F0, env0, h0, S0, o0⟩ := ev1 (a := a) hn S (.refl _ _ _ _) o
  refine ⟨F0, env0, h0, S0, o0.imp fun _ _ H1 ⟨v, e, F1, env1, p, e1, S1, st1, l1⟩ => ⟨v, e, ?_⟩⟩
  have hln := S.len
  simp only [e1, Res.bind_ok] at o
  obtain ⟨u, k1, o⟩ := Out.of o
  obtain ⟨b, k2, o⟩ := Out.of o
  refine ⟨b, tru_rep S1.fr (look_rep (j := 0) S1 (by omega) (by omega) rfl rfl k1) k2, ?_⟩
  have S2 := S1.head (by omega) (by omega)
  obtain ⟨v', e', q⟩ := Out.post S2 (st1.head (by omega) (by omega)) l1 o (.val S2.fr (.bl _))
  cases e'
  exact q
theorem ok_cmp {op : COp} {a b : E} (ha : OkE T G fa XR k a) (hb : OkE T G fa XR k b) : OkE T G fa XR k (.cmp op a b) := fun X W A ex hc => by
  cases ex <;> first | (simp [chkE] at hc; done) | skip
  rename_i x os ys p
  rcases os with _ | ⟨o, _ | ⟨_, _⟩⟩ <;> rcases ys with _ | ⟨y, _ | ⟨_, _⟩⟩ <;> first | (simp [chkE] at hc; done) | skip
  simp only [chkE, Bool.and_eq_true, decide_eq_true_eq] at hc
  obtain ⟨⟨⟨rfl, h1⟩, h2⟩, h3⟩ := hc
  have hu : X.A.units + 65 < cLine := A.un
  refine PE.imp (pe_cmpR (cmp_ok (fa := fa) hu op) (ha X W A x h1) (hb X W A y h2) (plain_mark _ h3)) fun σ H Q ⟨F, env, hn, S, o⟩ => ?_
  simp only [evE] at o
  obtain ⟨F0, env0, h0, S0, o0⟩ := ev2 (a := a) (b := b) hn S (.refl _ _ _ _) o fun _ => ⟨_, rfl⟩
  refine ⟨F0, env0, h0, S0, o0.imp fun _ _ _ ⟨u, e, F3, env3, h3, S3, o3⟩ => ⟨u, e, F3, env3, h3, S3, o3.imp fun _ _ H2 ⟨v, e', F2, env1, env2, p, q, e1, e2, S2, l2, st2⟩ => ⟨v, e', ?_⟩⟩⟩
  simp only [e1, e2, Res.bind_ok] at o
  obtain ⟨u1, k1, o⟩ := Out.of o
  obtain ⟨u2, k2, o⟩ := Out.of o
  obtain ⟨w, k3, o⟩ := Out.of o
  have hln := S.len
  refine ⟨F2, u1, u2, w, S2.fr, look_rep (j := 0) S2 (by omega) (by omega) rfl rfl k1, look_rep (j := 1) S2 (by omega) (by omega) rfl rfl k2, k3, ?_⟩
  have S2' := S2.head (by omega) (by omega)
  obtain ⟨v'', e'', q⟩ := Out.post S2' (st2.head (by omega) (by omega)) l2 o (.val S2'.fr (.bl _))
  cases e''
  exact q
theorem ok_chn {op op' : COp} {a b c : E} (ha : OkE T G fa XR k a) (hb : OkE T G fa XR k b) (hc' : OkE T G fa XR k c) : OkE T G fa XR k (.chn op op' a b c) := fun X W A ex hc => by
  cases ex <;> first | (simp [chkE] at hc; done) | skip
  rename_i x os ys p
  rcases os with _ | ⟨o1, _ | ⟨o2, _ | ⟨_, _⟩⟩⟩ <;> first | (simp [chkE] at hc; done) | skip
  rcases ys with _ | ⟨y, _ | ⟨z, _ | ⟨_, _⟩⟩⟩ <;> first | (simp [chkE] at hc; done) | skip
  simp only [chkE, Bool.and_eq_true, decide_eq_true_eq] at hc
  obtain ⟨⟨⟨⟨⟨⟨rfl, rfl⟩, h1⟩, h2⟩, h3⟩, h4⟩, h5⟩ := hc
  have hu : X.A.units + 65 < cLine := A.un
  refine PE.imp (pe_chain (cmp_ok (fa := fa) hu op) (cmp_ok (fa := fa) hu op') (ha X W A x h1) (hb X W A y h2) (hc' X W A z h3) (plain_mark (cOf op') h5)) fun σ H Q ⟨F, env, hn, S, o⟩ => ?_
  simp only [evE] at o
  obtain ⟨F0, env0, h0, S0, o0⟩ := ev2 (a := a) (b := b) hn S (.refl _ _ _ _) o fun _ => ⟨_, rfl⟩
  refine ⟨F0, env0, h0, S0, o0.imp fun _ _ _ ⟨u, e, F3, env3, h3, S3, o3⟩ => ⟨u, e, F3, env3, h3, S3, o3.imp fun _ _ H2 ⟨v, e', F2, env1, env2, p, q, e1, e2, S2, l2, st2⟩ => ⟨v, e', ?_⟩⟩⟩
  simp only [e1, e2, Res.bind_ok] at o
  obtain ⟨u1, k1, o⟩ := Out.of o
  obtain ⟨u2, k2, o⟩ := Out.of o
  obtain ⟨w, k3, o⟩ := Out.of o
  have hln := S.len
  have S2' := S2.head (by omega) (by omega)
  refine ⟨F2, u1, u2, w, S2.fr, look_rep (j := 0) S2 (by omega) (by omega) rfl rfl k1, look_rep (j := 1) S2 (by omega) (by omega) rfl rfl k2, k3, w, rfl, ?_⟩
  cases w with
  | false =>
    simp only [Bool.false_eq_true, if_false] at o ⊢
    obtain ⟨v'', e'', q⟩ := Out.post S2' (st2.head (by omega) (by omega)) l2 o (.val S2'.fr (.bl _))
    cases e''
    exact q
  | true =>
    simp only [if_true] at o ⊢
    obtain ⟨F4, env4, h4, S4, o4⟩ := ev1 (a := c) hn S2' (st2.head (by omega) (by omega)) o
    refine ⟨F4, env4, h4, S4, o4.imp fun _ _ H3 ⟨t, e', F5, env5, r, e3, S5, st5, l5⟩ => ⟨t, e', ?_⟩⟩
    obtain ⟨S6, st6⟩ := frame (τ := [some u, some v]) (ws := [p, q]) S2 hn l2 l5 S5 st5
    simp only [e3, Res.bind_ok] at o
    obtain ⟨v2, k4, o⟩ := Out.of o
    obtain ⟨x2, k5, o⟩ := Out.of o
    obtain ⟨w2, k6, o⟩ := Out.of o
    refine ⟨F5, v2, x2, w2, S5.fr, look_rep (τ := [some u, some v, some t]) (ws := [p, q, r]) (j := 1) S6 (by omega) (by omega) rfl rfl k4, look_rep (τ := [some u, some v, some t]) (ws := [p, q, r]) (j := 2) S6 (by omega) (by omega) rfl rfl k5, k6, ?_⟩
    have S7 := S6.head (by omega) (by omega)
    obtain ⟨v'', e'', q⟩ := Out.post S7 ((st2.trans st6).head (by omega) (by omega)) l5 o (.val S7.fr (.bl _))
    cases e''
    exact q

theorem out_end {F1 H1 : Hp} {env1 : En} {u : U} {p : Slot} {v : V} {Q : VK} (hn : σ.length = X.N.length) (S1 : Sim X.K fa X.N.length F1 H1 (σ ++ [some v]) (env1 ++ [p])) (st1 : Stp F H σ env F1 H1 (σ ++ [some v]) (env1 ++ [p])) (l1 : env1.length = X.N.length) (k1 : frz p = some u)
    (o : Out X.K fa XR W X.N.length (fun w => [w]) F H σ env (.ok (.val u, env1)) (fun _ vs H' => ∃ v, vs = [v] ∧ Q v H')) : Q v H1 := by
  obtain ⟨F2, S2, st2, r⟩ := freeze_side (vs := [v]) (us := [u]) S1 (by omega) (by simp [frzs, k1])
  obtain ⟨v', e', q⟩ := o [v] F2 H1 (by simpa using S2) (st1.trans (by simpa using st2)) l1
  cases e'
  exact q
theorem look_frz {p : Slot} {u : U} (h : frz p = some u) : look env p = some u := by
  cases p with
  | emp => cases h
  | val u' => exact h
  | bor _ => cases h
  | own u' pn =>
    cases pn with
    | true => cases h
    | false => exact h
theorem ok_and {a b : E} (ha : OkE T G fa XR k a) (hb : OkE T G fa XR k b) : OkE T G fa XR k (.and a b) := fun X W A ex hc => by
  cases ex <;> first | (simp [chkE] at hc; done) | skip
  rename_i op xs p
  cases op <;> rcases xs with _ | ⟨x, _ | ⟨y, r⟩⟩ <;> first | (simp [chkE] at hc; done) | skip
  simp only [chkE, Bool.and_eq_true] at hc
  have hb2 : PE X (.BoolOp .And (y :: r) p) (tEv G fa XR W X b) := by
    cases r with
    | nil => exact pe_one (hb X W A y hc.2)
    | cons z r => exact hb X W A _ hc.2
  refine PE.imp (pe_andT (ha X W A x hc.1) hb2) fun σ H Q ⟨F, env, hn, S, o⟩ => ?_
  simp only [evE] at o
  obtain ⟨F0, env0, h0, S0, o0⟩ := ev1 (a := a) hn S (.refl _ _ _ _) o
  refine ⟨F0, env0, h0, S0, o0.imp fun _ _ H1 ⟨v, e, F1, env1, p, e1, S1, st1, l1⟩ => ⟨v, e, ?_⟩⟩
  have hln := S.len
  simp only [e1, Res.bind_ok] at o
  obtain ⟨u, k1, o⟩ := Out.of o
  obtain ⟨c, k2, o⟩ := Out.of o
  refine ⟨c, tru_rep S1.fr (look_rep (j := 0) S1 (by omega) (by omega) rfl rfl (look_frz k1)) k2, ?_⟩
  cases c with
  | true =>
    simp only [if_true] at o ⊢
    exact ⟨F1, env1, hn, S1.head (by omega) (by omega), o.pre (st1.head (by omega) (by omega))⟩
  | false =>
    simp only [Bool.false_eq_true, if_false] at o ⊢
    exact out_end hn S1 st1 l1 k1 o
theorem ok_or {a b : E} (ha : OkE T G fa XR k a) (hb : OkE T G fa XR k b) : OkE T G fa XR k (.or a b) := fun X W A ex hc => by
  cases ex <;> first | (simp [chkE] at hc; done) | skip
  rename_i op xs p
  cases op <;> rcases xs with _ | ⟨x, _ | ⟨y, r⟩⟩ <;> first | (simp [chkE] at hc; done) | skip
  simp only [chkE, Bool.and_eq_true] at hc
  have hb2 : PE X (.BoolOp .Or (y :: r) p) (tEv G fa XR W X b) := by
    cases r with
    | nil => exact pe_one (hb X W A y hc.2)
    | cons z r => exact hb X W A _ hc.2
  refine PE.imp (pe_orT (ha X W A x hc.1) hb2) fun σ H Q ⟨F, env, hn, S, o⟩ => ?_
  simp only [evE] at o
  obtain ⟨F0, env0, h0, S0, o0⟩ := ev1 (a := a) hn S (.refl _ _ _ _) o
  refine ⟨F0, env0, h0, S0, o0.imp fun _ _ H1 ⟨v, e, F1, env1, p, e1, S1, st1, l1⟩ => ⟨v, e, ?_⟩⟩
  have hln := S.len
  simp only [e1, Res.bind_ok] at o
  obtain ⟨u, k1, o⟩ := Out.of o
  obtain ⟨c, k2, o⟩ := Out.of o
  refine ⟨c, tru_rep S1.fr (look_rep (j := 0) S1 (by omega) (by omega) rfl rfl (look_frz k1)) k2, ?_⟩
  cases c with
  | false =>
    simp only [Bool.false_eq_true, if_false] at o ⊢
    exact ⟨F1, env1, hn, S1.head (by omega) (by omega), o.pre (st1.head (by omega) (by omega))⟩
  | true =>
    simp only [if_true] at o ⊢
    exact out_end hn S1 st1 l1 k1 o
theorem ok_ite {c a b : E} (hc' : OkT T G fa XR k c) (ha : OkE T G fa XR k a) (hb : OkE T G fa XR k b) : OkE T G fa XR k (.ite c a b) := fun X W A ex hc => by
  cases ex <;> first | (simp [chkE] at hc; done) | skip
  rename_i z x y p
  simp only [chkE, Bool.and_eq_true] at hc
  refine PE.imp (pe_ifExp (hc' X W A z hc.1.1) (ha X W A x hc.1.2) (hb X W A y hc.2)) fun σ H Q ⟨F, env, hn, S, o⟩ => ?_
  have hln := S.len
  have e0 : evE G (.ite c a b) env = (evT G c env).bind fun (k, env) => if k = true then evE G a env else evE G b env := by
    simp only [evE, evT]
    cases evE G c env with
    | ok z =>
      simp only [Res.bind_ok]
      cases look z.2 z.1 with
      | none => rfl
      | some u => simp only [Res.of_some, Res.bind_ok]; cases u.tru <;> rfl
    | exc _ _ => rfl
    | bad => rfl
  rw [e0] at o
  refine ⟨F, env, hn, S, (Out.sub (sh := fun _ => []) o (.refl _ _ _ _)).imp fun bl vs H1 ⟨F1, env1, e1, S1, st1, l1⟩ => ?_⟩
  rw [e1, Res.bind_ok] at o
  have hv : vs = [] := by
    have := S1.len
    simp only [List.length_append, List.length_map, List.length_nil] at this
    exact List.eq_nil_of_length_eq_zero (by omega)
  subst hv
  simp only [List.map_nil, List.append_nil] at S1 st1
  cases bl with
  | true =>
    simp only [if_true] at o ⊢
    exact ⟨F1, env1, hn, S1, o.pre st1⟩
  | false =>
    simp only [Bool.false_eq_true, if_false] at o ⊢
    exact ⟨F1, env1, hn, S1, o.pre st1⟩
end
end PF
end
section
set_option Elab.async false
set_option autoImplicit false
set_option linter.all false
set_option maxRecDepth 100000
namespace PF
open PySem PySem.Spec PyProof.Rows L2

section
variable {T : Tbl} {G : Gx} {fa : FA} {XR : XRt} {k : Nat} {W : WX} {X : Cx} {σ : L2.St} {H : Hp} {F : Hp} {env : En}
theorem looks_side {K : PySem.W.Frag} {n : Nat} {vs : List V} {ws : En} {us : List U} (S : Sim K fa n F H (σ ++ vs.map some) (env ++ ws)) (hl : σ.length = env.length) (hn : n ≤ σ.length) (h : looks env ws = some us) : BReps K fa F H vs us :=
  looks_rep (ws0 := []) (vs0 := []) (by simpa using S) hl hn rfl (len_side S hl) h

theorem blt_ty (b : Blt) : (∃ id, bltV b = .builtin id) ∨ ∃ id, bltV b = .type id := by cases b <;> first | exact .inl ⟨_, rfl⟩ | exact .inr ⟨_, rfl⟩
theorem ok_blt {b : Blt} {es : E} (h : OkL T G fa XR k es) : OkE T G fa XR k (.blt b es) := fun X W A ex hc => by
  cases ex <;> first | (simp [chkE] at hc; done) | skip
  rename_i f xs ks p
  cases f <;> first | (simp [chkE] at hc; done) | skip
  rename_i x q
  cases ks <;> first | (simp [chkE] at hc; done) | skip
  simp only [chkE, Bool.and_eq_true, Bool.not_eq_true'] at hc
  obtain ⟨⟨⟨⟨h0, h1⟩, h2⟩, h3⟩, h4⟩ := hc
  obtain ⟨rfl, g1, g2, g3⟩ := globB_of h1
  have hm := A.free _ h2
  cases xs with
  | nil => cases h4
  | cons y ys =>
    have hp : plainB y = true := by
      cases es <;> first | (simp [chkL] at h3; done) | (simp only [chkL, Bool.and_eq_true] at h3; exact h3.1.2)
    have hpl : (backTo p (starEach ys X.env)).any (·.1) = false := by
      have := chkL_plain es (env := X.env) (pos := p) h3
      rw [star_cons hp] at this
      simpa [backTo] using this
    have pe : PE X (.Call (.Name (bltN b) q) (y :: ys) [] p) (tCB (rBl X.K fa (bltF b)) (tEvL G fa XR W X es)) := by
      have hv := blt_boot b
      have hr := blt_ok (fa := fa) (A.calm h0) b
      rcases blt_ty b with ⟨id, e⟩ | ⟨id, e⟩
      · rw [e] at hv hr
        exact pe_callB hr g1 hm hv (h X W A _ h3) g3 g2 (star_cons hp) hpl
      · rw [e] at hv hr
        exact pe_callTy hr g1 hm hv (h X W A _ h3) g3 g2 (star_cons hp) hpl
    refine PE.imp pe fun σ H Q ⟨F, env, hn, S, o⟩ => ?_
    simp only [evE] at o
    obtain ⟨F0, env0, h0, S0, o0⟩ := evl hn S (.refl _ _ _ _) o
    refine ⟨F0, env0, h0, S0, o0.imp fun _ vs H1 ⟨F1, env1, ws, e1, S1, st1, l1⟩ => ?_⟩
    have hln := S.len
    simp only [e1, Res.bind_ok] at o
    obtain ⟨us, e2, o⟩ := Out.of o
    obtain ⟨w, e3, o⟩ := Out.of o
    refine ⟨F1, us, w, S1.fr, looks_side S1 (by omega) (by omega) e2, e3, fun v F' H' P => ?_⟩
    obtain ⟨v', e', q⟩ := Out.post (S1.head (by omega) (by omega)) (st1.head (by omega) (by omega)) l1 o P
    cases e'
    exact q
theorem ok_ist {t : TyN} {a : E} (ha : OkE T G fa XR k a) : OkE T G fa XR k (.ist t a) := fun X W A ex hc => by
  cases ex <;> first | (simp [chkE] at hc; done) | skip
  rename_i f xs ks p
  cases f <;> first | (simp [chkE] at hc; done) | skip
  rename_i x q
  cases ks <;> rcases xs with _ | ⟨y, _ | ⟨z, _ | ⟨_, _⟩⟩⟩ <;> first | (simp [chkE] at hc; done) | skip
  cases z <;> first | (simp [chkE] at hc; done) | skip
  rename_i z r
  simp only [chkE, Bool.and_eq_true] at hc
  obtain ⟨⟨⟨⟨⟨h1, h2⟩, h3⟩, h4⟩, h5⟩, h6⟩ := hc
  obtain ⟨rfl, g1, g2, g3⟩ := globB_of h1
  obtain ⟨rfl, i1, i2, i3⟩ := globB_of h3
  refine PE.imp (pe_callB (ist_ok (fa := fa) t) g1 (A.free _ h2) (by decide +kernel) (pa_cons (ha X W A y h5) (pa_cons (pe_bltn (v := .ty (tyS t)) i1 (A.free _ h4) (ty_boot t) rfl i3 i2) pa_nil) (star_cons h6)) g3 g2 (star_cons h6) rfl) fun σ H Q ⟨F, env, hn, S, o⟩ => ?_
  simp only [evE] at o
  obtain ⟨F0, env0, h0, S0, o0⟩ := ev1 (a := a) hn S (.refl _ _ _ _) o
  refine ⟨F0, env0, h0, S0, o0.imp fun _ _ H1 ⟨v, e, F1, env1, p, e1, S1, st1, l1⟩ => ⟨v, e, ?_⟩⟩
  have hln := S.len
  simp only [e1, Res.bind_ok] at o
  obtain ⟨u, k1, o⟩ := Out.of o
  obtain ⟨b, k2, o⟩ := Out.of o
  refine ⟨F1, v, u, b, rfl, S1.fr, look_rep (j := 0) S1 (by omega) (by omega) rfl rfl k1, k2, ?_⟩
  have S2 := S1.head (by omega) (by omega)
  obtain ⟨v', e', q⟩ := Out.post S2 (st1.head (by omega) (by omega)) l1 o (.val S2.fr (.bl _))
  cases e'
  exact q

theorem chk_idx {N : List Str} {sc : Scope} {a b : E} {ex : Expr} (h : chkE T N (.idx a b) sc ex = true) : ∃ x y p, ex = .Subscript x y p ∧ chkE T N a sc x = true ∧ chkE T N b sc y = true ∧ plainB y = true := by
  cases ex <;> first | (simp [chkE] at h; done) | skip
  rename_i x y p
  simp only [chkE, Bool.and_eq_true] at h
  exact ⟨x, y, p, rfl, h.1.1, h.1.2, h.2⟩
theorem ok_idx {a b : E} (ha : OkE T G fa XR k a) (hb : OkE T G fa XR k b) : OkE T G fa XR k (.idx a b) := fun X W A ex hc => by
  obtain ⟨x, y, p, rfl, h1, h2, h3⟩ := chk_idx hc
  have hu : X.A.units + 65 < cLine := A.un
  refine PE.imp (pe_ix (ix_ok (fa := fa) hu) (ha X W A x h1) (hb X W A y h2) (plain_ix h3)) fun σ H Q ⟨F, env, hn, S, o⟩ => ?_
  simp only [evE] at o
  obtain ⟨F0, env0, h0, S0, o0⟩ := ev2 (a := a) (b := b) hn S (.refl _ _ _ _) o fun _ => ⟨_, rfl⟩
  refine ⟨F0, env0, h0, S0, o0.imp fun _ _ _ ⟨u, e, F3, env3, h3, S3, o3⟩ => ⟨u, e, F3, env3, h3, S3, o3.imp fun _ _ H2 ⟨v, e', F2, env1, env2, p, q, e1, e2, S2, l2, st2⟩ => ⟨v, e', ?_⟩⟩⟩
  simp only [e1, e2, Res.bind_ok] at o
  obtain ⟨u1, k1, o⟩ := Out.of o
  obtain ⟨u2, k2, o⟩ := Out.of o
  obtain ⟨w, k3, o⟩ := Out.of o
  have hln := S.len
  refine ⟨F2, u1, u2, w, S2.fr, look_rep (j := 0) S2 (by omega) (by omega) rfl rfl k1, look_rep (j := 1) S2 (by omega) (by omega) rfl rfl k2, k3, fun v' r => ?_⟩
  have S2' := S2.head (by omega) (by omega)
  obtain ⟨v'', e'', q⟩ := Out.post S2' (st2.head (by omega) (by omega)) l2 o (.val S2'.fr r)
  cases e''
  exact q
/-- a part of a slice -/
def chkP (T : Tbl) (N : List Str) (e : E) (sc : Scope) : Option Expr → Bool
  | none => (match e with | .nil => true | _ => false)
  | some l => (match e with | .nil => false | _ => chkE T N e sc l)
theorem part_ok {e : E} (he : OkE T G fa XR k e) {X : Cx} {W : WX} (A : Amb T G fa XR k W X) {l : Option Expr} (hc : chkP T X.N e X.env.scope l = true) :
    ∃ t, PO X l t ∧ ∀ {β : Type} {sh' : β → List Slot} {kk : Option Int × En → Res (β × En)} {Q : β → List V → Hp → Prop} {F0 H0 F H : Hp} {env0 env : En} {σ : L2.St} {Q' : Option Int → Hp → Prop}, σ.length = X.N.length → Sim X.K fa X.N.length F H σ env → Stp F0 H0 σ env0 F H σ env →
      Out X.K fa XR W X.N.length sh' F0 H0 σ env0 ((partF e (evE G e) env).bind kk) Q →
      (∀ i F1 H1 env1, partF e (evE G e) env = .ok (i, env1) → Sim X.K fa X.N.length F1 H1 σ env1 → Stp F H σ env F1 H1 σ env1 → env1.length = X.N.length → Q' i H1) → t σ H Q' := by
  cases l with
  | none =>
    refine ⟨_, po_none, fun {β sh' kk Q F0 H0 F H env0 env σ Q'} hn S st o q => ?_⟩
    have e0 : e = .nil := by cases e <;> first | rfl | cases hc
    subst e0
    exact q none F H env rfl S (.refl _ _ _ _) (S.len.symm.trans hn)
  | some l =>
    have hc : chkE T X.N e X.env.scope l = true ∧ e ≠ .nil := by
      unfold chkP at hc
      cases e <;> first | (cases hc; done) | exact ⟨hc, fun z => by cases z⟩
    refine ⟨_, po_some (he X W A l hc.1), fun {β sh' kk Q F0 H0 F H env0 env σ Q'} hn S st o q => ?_⟩
    have e0 : partF e (evE G e) env = (evE G e env).bind fun (p, env) => match look env p with | some (.int i) => .ok (some i, env) | _ => .bad := by
      unfold partF
      cases e <;> first | rfl | exact absurd rfl hc.2
    rw [e0] at o q
    have o2 : Out X.K fa XR W X.N.length sh' F0 H0 σ env0 ((evE G e env).bind fun z => (match look z.2 z.1 with | some (.int i) => Res.ok (some i, z.2) | _ => .bad).bind kk) Q := by
      cases h : evE G e env with
      | ok z => rw [h] at o; exact o
      | exc _ _ => rw [h] at o; exact o
      | bad => rw [h] at o; exact o
    obtain ⟨F0', env0', h0, S0, o3⟩ := ev1 (a := e) hn S st o2
    refine ⟨F0', env0', h0, S0, o3.imp fun _ _ H1 ⟨v, e', F1, env1, p, e1, S1, st1, l1⟩ => ⟨v, e', ?_⟩⟩
    have hln := S.len
    rw [e1] at o2 q
    simp only [Res.bind_ok] at o2 q
    split at o2
    · rename_i i k1
      cases (look_rep (j := 0) S1 (by omega) (by omega) rfl rfl k1).int
      refine ⟨i, rfl, q _ F1 H1 env1 ?_ (S1.head (by omega) (by omega)) (st1.head (by omega) (by omega)) l1⟩
      rw [k1]
    · exact o2.elim
theorem ok_slc {a lo hi : E} (ha : OkE T G fa XR k a) (hlo : OkE T G fa XR k lo) (hhi : OkE T G fa XR k hi) : OkE T G fa XR k (.slc a lo hi) := fun X W A ex hc => by
  cases ex <;> first | (simp [chkE] at hc; done) | skip
  rename_i x y p
  cases y <;> first | (simp [chkE] at hc; done) | skip
  rename_i l h s q
  cases s <;> first | (simp [chkE] at hc; done) | skip
  simp only [chkE, Bool.and_eq_true] at hc
  obtain ⟨⟨h1, h2⟩, h3⟩ := hc
  obtain ⟨tl, pl, ql⟩ := part_ok hlo A (l := l) (by unfold chkP; exact h2)
  obtain ⟨th, ph, qh⟩ := part_ok hhi A (l := h) (by unfold chkP; exact h3)
  refine PE.imp (pe_slice (sl_ok (fa := fa)) (ha X W A x h1) pl ph) fun σ H Q ⟨F, env, hn, S, o⟩ => ?_
  simp only [evE] at o
  obtain ⟨F0, env0, h0, S0, o0⟩ := ev1 (a := a) hn S (.refl _ _ _ _) o
  refine ⟨F0, env0, h0, S0, o0.imp fun _ _ H1 ⟨v, e, F1, env1, p, e1, S1, st1, l1⟩ => ⟨v, e, ?_⟩⟩
  have hln := S.len
  simp only [e1, Res.bind_ok] at o
  refine ql hn (S1.head (by omega) (by omega)) (st1.head (by omega) (by omega)) o fun i F2 H2 env2 e2 S2 st2 l2 => ?_
  obtain ⟨S3, st3⟩ := frame (τ := [some v]) (ws := [p]) (τ2 := []) (ws2 := []) S1 hn l1 l2 (by simpa using S2) (by simpa using st2)
  simp only [e2, Res.bind_ok] at o
  refine qh hn S2 ((st1.trans st3).head (by omega) (by omega)) o fun j F4 H4 env4 e4 S4 st4 l4 => ?_
  obtain ⟨S5, st5⟩ := frame (τ := [some v]) (ws := [p]) (τ2 := []) (ws2 := []) (by simpa using S3) hn l2 l4 (by simpa using S4) (by simpa using st4)
  simp only [e4, Res.bind_ok] at o
  obtain ⟨u, k1, o⟩ := Out.of o
  obtain ⟨w, k2, o⟩ := Out.of o
  have hk : Stp F H σ env F4 H4 (σ ++ [some v]) (env4 ++ [p]) := (st1.trans (by simpa using st3)).trans (by simpa using st5)
  refine ⟨F4, u, w, S4.fr, look_rep (τ := [some v]) (ws := [p]) (j := 0) (by simpa using S5) (by omega) (by omega) rfl rfl k1, k2, fun v' F' H' P => ?_⟩
  obtain ⟨v'', e'', q⟩ := Out.post S4 (hk.head (by omega) (by omega)) l4 o P
  cases e''
  exact q

def plainT : Expr → Bool
  | .UnaryOp .Not _ _ => false | .BoolOp .. => false | .IfExp .. => false | .Compare .. => false | _ => true
theorem test_plain {ex : Expr} (h : plainT ex = true) (env : Env) (whole : Sem Value) :
    isTrue ex env whole = (do let v ← whole; standAt ex.pos; holding [v] (truthy v)) := by
  cases ex <;> first | rfl | (cases h; done) | skip
  rename_i o x p
  cases o <;> first | rfl | (cases h; done)
/-- any expression whose test is its value's truth -/
theorem test_val {e : E} {X : Cx} {W : WX} {ex : Expr} (h : PE X ex (tEv G fa XR W X e)) (hp : ∀ whole, isTrue ex X.env whole = (do let v ← whole; standAt ex.pos; holding [v] (truthy v))) : PT X ex (tEvT G fa XR W X e) := by
  refine PT.imp (pt_truth h hp) fun σ H Q ⟨F, env, hn, S, o⟩ => ?_
  unfold evT at o
  obtain ⟨F0, env0, h0, S0, o0⟩ := ev1 (a := e) hn S (.refl _ _ _ _) o
  refine ⟨F0, env0, h0, S0, o0.imp fun _ _ H1 ⟨v, e', F1, env1, p, e1, S1, st1, l1⟩ => ⟨v, e', ?_⟩⟩
  have hln := S.len
  simp only [e1, Res.bind_ok] at o
  obtain ⟨u, k1, o⟩ := Out.of o
  obtain ⟨b, k2, o⟩ := Out.of o
  refine ⟨b, tru_rep S1.fr (look_rep (j := 0) S1 (by omega) (by omega) rfl rfl k1) k2, ?_⟩
  exact o [] F1 H1 (by simpa using S1.head (by omega) (by omega)) (by simpa using st1.head (by omega) (by omega)) l1
/-- a comparison as a test -/
theorem test_cmp {e : E} {X : Cx} {W : WX} {ex : Expr} {t : TE} (h : PT X ex (tTest t)) (ht : ∀ σ H Q, tEv G fa XR W X e σ H Q → t σ H Q) (hb : ∀ env p env1, evE G e env = .ok (p, env1) → ∃ b, p = .val (.bl b)) : PT X ex (tEvT G fa XR W X e) := by
  refine PT.imp h fun σ H Q ⟨F, env, hn, S, o⟩ => ?_
  unfold evT at o
  refine ht _ _ _ ?_
  obtain ⟨F0, env0, h0, S0, o0⟩ := ev1 (a := e) hn S (.refl _ _ _ _) o
  refine ⟨F0, env0, h0, S0, o0.imp fun _ _ H1 ⟨v, e', F1, env1, p, e1, S1, st1, l1⟩ => ⟨v, e', ?_⟩⟩
  have hln := S.len
  simp only [e1, Res.bind_ok] at o
  obtain ⟨u, k1, o⟩ := Out.of o
  obtain ⟨b, k2, o⟩ := Out.of o
  obtain ⟨b', rfl⟩ := hb _ _ _ e1
  cases k1
  cases k2
  cases (look_rep (j := 0) S1 (by omega) (by omega) rfl rfl (show look env1 (.val (.bl b)) = some (.bl b) from rfl)).bl
  exact ⟨b, rfl, o [] F1 H1 (by simpa using S1.head (by omega) (by omega)) (by simpa using st1.head (by omega) (by omega)) l1⟩
end
end PF
end
section
set_option Elab.async false
set_option autoImplicit false
set_option linter.all false
set_option maxRecDepth 100000
namespace PF
open PySem PySem.Spec PyProof.Rows L2

section
variable {T : Tbl} {G : Gx} {fa : FA} {XR : XRt} {k : Nat} {W : WX} {X : Cx} {σ : L2.St} {H : Hp} {F : Hp} {env : En}
def E.tst : E → Bool
  | .not _ | .and _ _ | .or _ _ | .ite _ _ _ | .cmp _ _ _ | .chn _ _ _ _ _ => true
  | _ => false
theorem tst_of {N : List Str} {sc : Scope} {e : E} {ex : Expr} (h : chkE T N e sc ex = true) (ht : e.tst = false) : plainT ex = true := by
  cases ex with
  | BoolOp op xs p => cases e <;> first | (cases ht; done) | (simp [chkE] at h)
  | IfExp a b c p => cases e <;> first | (cases ht; done) | (simp [chkE] at h)
  | Compare a b c p => cases e <;> first | (cases ht; done) | (simp [chkE] at h)
  | UnaryOp o x p => cases o <;> first | rfl | (cases e <;> first | (cases ht; done) | (simp [chkE] at h))
  | _ => rfl
theorem okT_val {e : E} (h : OkE T G fa XR k e) (ht : e.tst = false) : OkT T G fa XR k e := fun X W A ex hc => test_val (h X W A ex hc) fun _ => test_plain (tst_of hc ht) _ _
theorem Res.inv {α β : Type} {r : Res α} {f : α → Res β} {y : β} (h : r.bind f = .ok y) : ∃ a, r = .ok a ∧ f a = .ok y := by
  cases r with
  | ok a => exact ⟨a, rfl, h⟩
  | exc _ _ => cases h
  | bad => cases h
theorem cmp_val {op : COp} {a b : E} {env : En} {p : Slot} {env1 : En} (h : evE G (.cmp op a b) env = .ok (p, env1)) : ∃ c, p = .val (.bl c) := by
  simp only [evE] at h
  obtain ⟨_, _, h⟩ := Res.inv h
  obtain ⟨_, _, h⟩ := Res.inv h
  obtain ⟨_, _, h⟩ := Res.inv h
  obtain ⟨_, _, h⟩ := Res.inv h
  obtain ⟨c, _, h⟩ := Res.inv h
  cases h
  exact ⟨c, rfl⟩
theorem okT_cmp {op : COp} {a b : E} (ha : OkE T G fa XR k a) (hb : OkE T G fa XR k b) : OkT T G fa XR k (.cmp op a b) := fun X W A ex hc => by
  have hc0 := hc
  cases ex <;> first | (simp [chkE] at hc; done) | skip
  rename_i x os ys p
  rcases os with _ | ⟨o, _ | ⟨_, _⟩⟩ <;> rcases ys with _ | ⟨y, _ | ⟨_, _⟩⟩ <;> first | (simp [chkE] at hc; done) | skip
  simp only [chkE, Bool.and_eq_true, decide_eq_true_eq] at hc
  obtain ⟨⟨⟨rfl, h1⟩, h2⟩, h3⟩ := hc
  have hu : X.A.units + 65 < cLine := A.un
  refine test_cmp (pt_cmpR (cmp_ok (fa := fa) hu op) (ha X W A x h1) (hb X W A y h2) (plain_mark _ h3)) (fun σ H Q ⟨F, env, hn, S, o⟩ => ?_) fun _ _ _ => cmp_val
  simp only [evE] at o
  obtain ⟨F0, env0, h0, S0, o0⟩ := ev2 (a := a) (b := b) hn S (.refl _ _ _ _) o fun _ => ⟨_, rfl⟩
  refine ⟨F0, env0, h0, S0, o0.imp fun _ _ _ ⟨u, e, F3, env3, h3, S3, o3⟩ => ⟨u, e, F3, env3, h3, S3, o3.imp fun _ _ H2 ⟨v, e', F2, env1, env2, p, q, e1, e2, S2, l2, st2⟩ => ⟨v, e', ?_⟩⟩⟩
  simp only [e1, e2, Res.bind_ok] at o
  obtain ⟨u1, k1, o⟩ := Out.of o
  obtain ⟨u2, k2, o⟩ := Out.of o
  obtain ⟨w, k3, o⟩ := Out.of o
  have hln := S.len
  refine ⟨F2, u1, u2, w, S2.fr, look_rep (j := 0) S2 (by omega) (by omega) rfl rfl k1, look_rep (j := 1) S2 (by omega) (by omega) rfl rfl k2, k3, ?_⟩
  have S2' := S2.head (by omega) (by omega)
  obtain ⟨v'', e'', q⟩ := Out.post S2' (st2.head (by omega) (by omega)) l2 o (.val S2'.fr (.bl _))
  cases e''
  exact q
theorem chn_val {op op' : COp} {a b c : E} {env : En} {p : Slot} {env1 : En} (h : evE G (.chn op op' a b c) env = .ok (p, env1)) : ∃ c, p = .val (.bl c) := by
  simp only [evE] at h
  obtain ⟨_, _, h⟩ := Res.inv h
  obtain ⟨_, _, h⟩ := Res.inv h
  obtain ⟨_, _, h⟩ := Res.inv h
  obtain ⟨_, _, h⟩ := Res.inv h
  obtain ⟨_, _, h⟩ := Res.inv h
  split at h
  · obtain ⟨_, _, h⟩ := Res.inv h
    obtain ⟨_, _, h⟩ := Res.inv h
    obtain ⟨_, _, h⟩ := Res.inv h
    obtain ⟨d, _, h⟩ := Res.inv h
    cases h
    exact ⟨d, rfl⟩
  · cases h
    exact ⟨_, rfl⟩
theorem chn_read {op op' : COp} {a b c : E} {X : Cx} {W : WX} {σ : L2.St} {H : Hp} {Q : VK} (q0 : tEv G fa XR W X (.chn op op' a b c) σ H Q) :
    tChain (rCm X.K fa (cmpF op)) (rCm X.K fa (cmpF op')) (tEv G fa XR W X a) (tEv G fa XR W X b) (tEv G fa XR W X c) σ H Q := by
  obtain ⟨F, env, hn, S, o⟩ := q0
  simp only [evE] at o
  obtain ⟨F0, env0, h0, S0, o0⟩ := ev2 (a := a) (b := b) hn S (.refl _ _ _ _) o fun _ => ⟨_, rfl⟩
  refine ⟨F0, env0, h0, S0, o0.imp fun _ _ _ ⟨u, e, F3, env3, h3, S3, o3⟩ => ⟨u, e, F3, env3, h3, S3, o3.imp fun _ _ H2 ⟨v, e', F2, env1, env2, p, q, e1, e2, S2, l2, st2⟩ => ⟨v, e', ?_⟩⟩⟩
  simp only [e1, e2, Res.bind_ok] at o
  obtain ⟨u1, k1, o⟩ := Out.of o
  obtain ⟨u2, k2, o⟩ := Out.of o
  obtain ⟨w, k3, o⟩ := Out.of o
  have hln := S.len
  have S2' := S2.head (by omega) (by omega)
  refine ⟨F2, u1, u2, w, S2.fr, look_rep (j := 0) S2 (by omega) (by omega) rfl rfl k1, look_rep (j := 1) S2 (by omega) (by omega) rfl rfl k2, k3, w, rfl, ?_⟩
  cases w with
  | false =>
    simp only [Bool.false_eq_true, if_false] at o ⊢
    obtain ⟨v'', e'', q⟩ := Out.post S2' (st2.head (by omega) (by omega)) l2 o (.val S2'.fr (.bl _))
    cases e''
    exact q
  | true =>
    simp only [if_true] at o ⊢
    obtain ⟨F4, env4, h4, S4, o4⟩ := ev1 (a := c) hn S2' (st2.head (by omega) (by omega)) o
    refine ⟨F4, env4, h4, S4, o4.imp fun _ _ H3 ⟨t, e', F5, env5, r, e3, S5, st5, l5⟩ => ⟨t, e', ?_⟩⟩
    obtain ⟨S6, st6⟩ := frame (τ := [some u, some v]) (ws := [p, q]) S2 hn l2 l5 S5 st5
    simp only [e3, Res.bind_ok] at o
    obtain ⟨v2, k4, o⟩ := Out.of o
    obtain ⟨x2, k5, o⟩ := Out.of o
    obtain ⟨w2, k6, o⟩ := Out.of o
    refine ⟨F5, v2, x2, w2, S5.fr, look_rep (τ := [some u, some v, some t]) (ws := [p, q, r]) (j := 1) S6 (by omega) (by omega) rfl rfl k4, look_rep (τ := [some u, some v, some t]) (ws := [p, q, r]) (j := 2) S6 (by omega) (by omega) rfl rfl k5, k6, ?_⟩
    have S7 := S6.head (by omega) (by omega)
    obtain ⟨v'', e'', q⟩ := Out.post S7 ((st2.trans st6).head (by omega) (by omega)) l5 o (.val S7.fr (.bl _))
    cases e''
    exact q

theorem okT_chn {op op' : COp} {a b c : E} (ha : OkE T G fa XR k a) (hb : OkE T G fa XR k b) (hc' : OkE T G fa XR k c) : OkT T G fa XR k (.chn op op' a b c) := fun X W A ex hc => by
  cases ex <;> first | (simp [chkE] at hc; done) | skip
  rename_i x os ys p
  rcases os with _ | ⟨o1, _ | ⟨o2, _ | ⟨_, _⟩⟩⟩ <;> first | (simp [chkE] at hc; done) | skip
  rcases ys with _ | ⟨y, _ | ⟨z, _ | ⟨_, _⟩⟩⟩ <;> first | (simp [chkE] at hc; done) | skip
  simp only [chkE, Bool.and_eq_true, decide_eq_true_eq] at hc
  obtain ⟨⟨⟨⟨⟨⟨rfl, rfl⟩, h1⟩, h2⟩, h3⟩, h4⟩, h5⟩ := hc
  have hu : X.A.units + 65 < cLine := A.un
  exact test_cmp (pt_chain (cmp_ok (fa := fa) hu op) (cmp_ok (fa := fa) hu op') (ha X W A x h1) (hb X W A y h2) (hc' X W A z h3) (plain_mark (cOf op') h5)) (fun σ H Q q => chn_read (a := a) (b := b) (c := c) q) fun _ _ _ => chn_val

theorem okT_not {a : E} (ha : OkT T G fa XR k a) : OkT T G fa XR k (.not a) := fun X W A ex hc => by
  cases ex <;> first | (simp [chkE] at hc; done) | skip
  rename_i o x p
  cases o <;> first | (simp [chkE] at hc; done) | skip
  simp only [chkE] at hc
  refine PT.imp (pt_not (ha X W A x hc)) fun σ H Q ⟨F, env, hn, S, o⟩ => ?_
  have e0 : evT G (.not a) env = (evT G a env).bind fun (b, env) => .ok (!b, env) := by
    simp only [evT, evE]
    cases evE G a env with
    | ok z =>
      simp only [Res.bind_ok]
      cases look z.2 z.1 with
      | none => rfl
      | some u => simp only [Res.of_some, Res.bind_ok]; cases u.tru <;> rfl
    | exc _ _ => rfl
    | bad => rfl
  rw [e0] at o
  refine ⟨F, env, hn, S, (Out.sub (sh := fun _ => []) o (.refl _ _ _ _)).imp fun bl vs H1 ⟨F1, env1, e1, S1, st1, l1⟩ => ?_⟩
  rw [e1, Res.bind_ok] at o
  exact o vs F1 H1 S1 st1 l1
theorem out_and {a b : E} {n : Nat} {K : PySem.W.Frag} {Q : Bool → List V → Hp → Prop} (h : Out K fa XR W n (fun _ => []) F H σ env (evT G (.and a b) env) Q) :
    Out K fa XR W n (fun _ => []) F H σ env ((evT G a env).bind fun z => if z.1 = true then evT G b z.2 else .ok (false, z.2)) Q := by
  simp only [evT, evE] at h ⊢
  cases e : evE G a env with
  | ok z =>
    rw [e] at h
    simp only [Res.bind_ok] at h ⊢
    cases e1 : frz z.1 with
    | none => rw [e1] at h; exact h.elim
    | some u =>
      rw [e1] at h
      rw [look_frz e1]
      simp only [Res.of_some, Res.bind_ok] at h ⊢
      cases e2 : u.tru with
      | none => rw [e2] at h; exact h.elim
      | some c =>
        rw [e2] at h
        simp only [Res.of_some, Res.bind_ok] at h ⊢
        cases c with
        | true => exact h
        | false => simpa [look, e2] using h
  | exc _ _ => rw [e] at h; exact h
  | bad => rw [e] at h; exact h
theorem out_or {a b : E} {n : Nat} {K : PySem.W.Frag} {Q : Bool → List V → Hp → Prop} (h : Out K fa XR W n (fun _ => []) F H σ env (evT G (.or a b) env) Q) :
    Out K fa XR W n (fun _ => []) F H σ env ((evT G a env).bind fun z => if z.1 = true then .ok (true, z.2) else evT G b z.2) Q := by
  simp only [evT, evE] at h ⊢
  cases e : evE G a env with
  | ok z =>
    rw [e] at h
    simp only [Res.bind_ok] at h ⊢
    cases e1 : frz z.1 with
    | none => rw [e1] at h; exact h.elim
    | some u =>
      rw [e1] at h
      rw [look_frz e1]
      simp only [Res.of_some, Res.bind_ok] at h ⊢
      cases e2 : u.tru with
      | none => rw [e2] at h; exact h.elim
      | some c =>
        rw [e2] at h
        simp only [Res.of_some, Res.bind_ok] at h ⊢
        cases c with
        | false => exact h
        | true => simpa [look, e2] using h
  | exc _ _ => rw [e] at h; exact h
  | bad => rw [e] at h; exact h
theorem bare {K : PySem.W.Frag} {n : Nat} {vs : List V} (S : Sim K fa n F H (σ ++ vs.map some) (env ++ [])) (hl : σ.length = env.length) : vs = [] := by
  have := S.len
  simp only [List.length_append, List.length_map, List.length_nil] at this
  exact List.eq_nil_of_length_eq_zero (by omega)
theorem okW_and {a b : E} (ha : OkT T G fa XR k a) (hb : OkT T G fa XR k b) (hw : OkW T G fa XR k b) : OkW T G fa XR k (.and a b) := fun X W A op xs p hc => by
  cases op <;> rcases xs with _ | ⟨x, _ | ⟨y, r⟩⟩ <;> first | (simp [chkE] at hc; done) | skip
  simp only [chkE, Bool.and_eq_true] at hc
  have hb2 : PW X (.BoolOp .And (y :: r) p) (tEvT G fa XR W X b) := by
    cases r with
    | nil => exact pw_and1 (hb X W A y hc.2)
    | cons z r => exact hw X W A _ _ _ hc.2
  refine PW.imp (pw_and (ha X W A x hc.1) hb2) fun σ H Q ⟨F, env, hn, S, o⟩ => ?_
  have o := out_and o
  refine ⟨F, env, hn, S, (Out.sub (sh := fun _ => []) o (.refl _ _ _ _)).imp fun bl vs H1 ⟨F1, env1, e1, S1, st1, l1⟩ => ?_⟩
  rw [e1, Res.bind_ok] at o
  cases bare S1 (by omega)
  simp only [List.map_nil, List.append_nil] at S1 st1
  cases bl with
  | true =>
    simp only [if_true] at o ⊢
    exact ⟨F1, env1, hn, S1, o.pre st1⟩
  | false =>
    simp only [Bool.false_eq_true, if_false] at o ⊢
    exact o [] F1 H1 (by simpa using S1) (by simpa using st1) l1
theorem okW_or {a b : E} (ha : OkT T G fa XR k a) (hb : OkT T G fa XR k b) (hw : OkW T G fa XR k b) : OkW T G fa XR k (.or a b) := fun X W A op xs p hc => by
  cases op <;> rcases xs with _ | ⟨x, _ | ⟨y, r⟩⟩ <;> first | (simp [chkE] at hc; done) | skip
  simp only [chkE, Bool.and_eq_true] at hc
  have hb2 : PW X (.BoolOp .Or (y :: r) p) (tEvT G fa XR W X b) := by
    cases r with
    | nil => exact pw_or1 (hb X W A y hc.2)
    | cons z r => exact hw X W A _ _ _ hc.2
  refine PW.imp (pw_or (ha X W A x hc.1) hb2) fun σ H Q ⟨F, env, hn, S, o⟩ => ?_
  have o := out_or o
  refine ⟨F, env, hn, S, (Out.sub (sh := fun _ => []) o (.refl _ _ _ _)).imp fun bl vs H1 ⟨F1, env1, e1, S1, st1, l1⟩ => ?_⟩
  rw [e1, Res.bind_ok] at o
  cases bare S1 (by omega)
  simp only [List.map_nil, List.append_nil] at S1 st1
  cases bl with
  | false =>
    simp only [Bool.false_eq_true, if_false] at o ⊢
    exact ⟨F1, env1, hn, S1, o.pre st1⟩
  | true =>
    simp only [if_true] at o ⊢
    exact o [] F1 H1 (by simpa using S1) (by simpa using st1) l1
theorem okT_and {a b : E} (hw : OkW T G fa XR k (.and a b)) : OkT T G fa XR k (.and a b) := fun X W A ex hc => by
  cases ex <;> first | (simp [chkE] at hc; done) | skip
  exact (hw X W A _ _ _ hc).pt
theorem okT_or {a b : E} (hw : OkW T G fa XR k (.or a b)) : OkT T G fa XR k (.or a b) := fun X W A ex hc => by
  cases ex <;> first | (simp [chkE] at hc; done) | skip
  exact (hw X W A _ _ _ hc).pt
theorem pt_ifExp {X : Cx} {c a b : Expr} {p : Pos} {tA ta tb : TT} (hc : PT X c tA) (ha : PT X a ta) (hb : PT X b tb) : PT X (.IfExp c a b p) (fun σ H Q => tA σ H fun c H1 => if c = true then ta σ H1 Q else tb σ H1 Q) := by
  refine ⟨fun pins s σ H Q I h => ?_⟩
  refine isTrue_IfExp (thn (hc.run pins s σ H _ I h) fun d s1 ⟨H1, I1, q1⟩ => ?_)
  cases d with
  | true => exact ha.run pins s1 σ H1 Q I1 q1
  | false => exact hb.run pins s1 σ H1 Q I1 q1
theorem okT_ite {c a b : E} (hc' : OkT T G fa XR k c) (ha : OkT T G fa XR k a) (hb : OkT T G fa XR k b) : OkT T G fa XR k (.ite c a b) := fun X W A ex hc => by
  cases ex <;> first | (simp [chkE] at hc; done) | skip
  rename_i z x y p
  simp only [chkE, Bool.and_eq_true] at hc
  refine PT.imp (pt_ifExp (hc' X W A z hc.1.1) (ha X W A x hc.1.2) (hb X W A y hc.2)) fun σ H Q ⟨F, env, hn, S, o⟩ => ?_
  have e0 : evT G (.ite c a b) env = (evT G c env).bind fun (k, env) => if k = true then evT G a env else evT G b env := by
    simp only [evE, evT]
    cases evE G c env with
    | ok z =>
      simp only [Res.bind_ok]
      cases look z.2 z.1 with
      | none => rfl
      | some u =>
        simp only [Res.of_some, Res.bind_ok]
        cases u.tru with
        | none => rfl
        | some b => cases b <;> rfl
    | exc _ _ => rfl
    | bad => rfl
  rw [e0] at o
  refine ⟨F, env, hn, S, (Out.sub (sh := fun _ => []) o (.refl _ _ _ _)).imp fun bl vs H1 ⟨F1, env1, e1, S1, st1, l1⟩ => ?_⟩
  rw [e1, Res.bind_ok] at o
  cases bare S1 (by omega)
  simp only [List.map_nil, List.append_nil] at S1 st1
  cases bl with
  | true =>
    simp only [if_true] at o ⊢
    exact ⟨F1, env1, hn, S1, o.pre st1⟩
  | false =>
    simp only [Bool.false_eq_true, if_false] at o ⊢
    exact ⟨F1, env1, hn, S1, o.pre st1⟩
end
end PF
end
section
set_option Elab.async false
set_option autoImplicit false
set_option linter.all false
set_option maxRecDepth 100000
namespace PF
open PySem PySem.Spec PyProof.Rows L2

/-- the arguments' places, lent ones as loans -/
def mix : List Slot → List Slot → List Slot
  | .bor i :: ws, _ :: as => .bor i :: mix ws as
  | _ :: ws, a :: as => a :: mix ws as
  | _, _ => []
theorem args_at {env : En} : ∀ {md : List Bool} {ws as : List Slot}, argsF env md ws = some as → as.length = md.length ∧ ws.length = md.length ∧
    ∀ (j : Nat) (s : Slot), as[j]? = some s → (∃ (u : U) (w : Slot), s = .val u ∧ ws[j]? = some w ∧ frz w = some u ∧ md[j]? = some false ∧ (mix ws as)[j]? = some (.val u)) ∨
      ∃ (u : U) (i : Nat) (p : Bool), s = .own u true ∧ ws[j]? = some (.bor i) ∧ env[i]? = some (.own u p) ∧ md[j]? = some true ∧ (mix ws as)[j]? = some (.bor i)
  | [], [], as, h => by cases h; exact ⟨rfl, rfl, fun j s e => by simp at e⟩
  | [], _ :: _, as, h => by simp [argsF] at h
  | false :: md, [], as, h => by simp [argsF] at h
  | true :: md, [], as, h => by simp [argsF] at h
  | false :: md, w :: ws, as, h => by
    simp only [argsF] at h
    obtain ⟨u, h1, h⟩ := Option.bind_eq_some_iff.mp h
    obtain ⟨as', h2, rfl⟩ := Option.map_eq_some_iff.mp h
    obtain ⟨l1, l2, q⟩ := args_at h2
    have hm : mix (w :: ws) (.val u :: as') = .val u :: mix ws as' := by cases w <;> first | rfl | cases h1
    refine ⟨by simp [l1], by simp [l2], fun j s e => ?_⟩
    rw [hm]
    cases j with
    | zero => simp at e; subst e; exact .inl ⟨u, w, rfl, rfl, h1, rfl, rfl⟩
    | succ j => simpa using q j s (by simpa using e)
  | true :: md, w :: ws, as, h => by
    cases w with
    | bor i =>
      simp only [argsF] at h
      cases e0 : env[i]? with
      | none => rw [e0] at h; cases h
      | some t =>
        cases t with
        | own u p =>
          simp only [e0] at h
          obtain ⟨as', h2, rfl⟩ := Option.map_eq_some_iff.mp h
          obtain ⟨l1, l2, q⟩ := args_at h2
          refine ⟨by simp [l1], by simp [l2], fun j s e => ?_⟩
          cases j with
          | zero => simp at e; subst e; exact .inr ⟨u, i, p, rfl, rfl, e0, rfl, rfl⟩
          | succ j => simpa [mix] using q j s (by simpa using e)
        | emp => simp [e0] at h
        | val u => simp [e0] at h
        | bor u => simp [e0] at h
    | emp => simp [argsF] at h
    | val u => simp [argsF] at h
    | own u p => simp [argsF] at h
section
variable {K : PySem.W.Frag} {fa : FA} {n : Nat} {H : Hp} {σ : L2.St} {env : En}
theorem args_freeze : ∀ {F : Hp} {md : List Bool} {ws ws0 as : List Slot}, Sim K fa n F H σ (ws0 ++ ws) → argsF env md ws = some as → ∃ F', Sim K fa n F' H σ (ws0 ++ mix ws as) ∧ Stp F H σ (ws0 ++ ws) F' H σ (ws0 ++ mix ws as)
  | F, [], [], ws0, as, S, h => by cases h; exact ⟨F, by simpa [mix] using S, by simpa [mix] using Stp.refl _ _ _ _⟩
  | F, [], _ :: _, ws0, as, S, h => by simp [argsF] at h
  | F, false :: md, [], ws0, as, S, h => by simp [argsF] at h
  | F, true :: md, [], ws0, as, S, h => by simp [argsF] at h
  | F, false :: md, w :: ws, ws0, as, S, h => by
    simp only [argsF] at h
    obtain ⟨u, h1, h⟩ := Option.bind_eq_some_iff.mp h
    obtain ⟨as', h2, rfl⟩ := Option.map_eq_some_iff.mp h
    have hm : mix (w :: ws) (.val u :: as') = .val u :: mix ws as' := by cases w <;> first | rfl | cases h1
    obtain ⟨F1, S1, st1⟩ := frz_one (i := ws0.length) S (by simp) h1
    have es : (ws0 ++ w :: ws).set ws0.length (.val u) = (ws0 ++ [.val u]) ++ ws := by simp
    rw [es] at S1 st1
    obtain ⟨F2, S2, st2⟩ := args_freeze S1 h2
    rw [hm]
    exact ⟨F2, by simpa using S2, by simpa using st1.trans st2⟩
  | F, true :: md, w :: ws, ws0, as, S, h => by
    cases w with
    | bor i =>
      simp only [argsF] at h
      split at h
      · obtain ⟨as', h2, rfl⟩ := Option.map_eq_some_iff.mp h
        obtain ⟨F2, S2, st2⟩ := args_freeze (ws0 := ws0 ++ [.bor i]) (ws := ws) (by simpa using S) h2
        exact ⟨F2, by simpa [mix] using S2, by simpa [mix] using st2⟩
      · cases h
    | emp => simp [argsF] at h
    | val u => simp [argsF] at h
    | own u p => simp [argsF] at h
end
theorem mem_borrows : ∀ {ws : List Slot} {i : Nat}, i ∈ borrows ws ↔ ∃ j : Nat, ws[j]? = some (.bor i)
  | [], i => by simp [borrows]
  | w :: ws, i => by
    have ih := mem_borrows (ws := ws) (i := i)
    constructor
    · intro h
      cases w with
      | bor k =>
        simp only [borrows, List.mem_cons] at h
        rcases h with rfl | h
        · exact ⟨0, rfl⟩
        · obtain ⟨j, q⟩ := ih.mp h; exact ⟨j + 1, by simpa using q⟩
      | emp => obtain ⟨j, q⟩ := ih.mp h; exact ⟨j + 1, by simpa using q⟩
      | val u => obtain ⟨j, q⟩ := ih.mp h; exact ⟨j + 1, by simpa using q⟩
      | own u p => obtain ⟨j, q⟩ := ih.mp h; exact ⟨j + 1, by simpa using q⟩
    · rintro ⟨j, q⟩
      cases j with
      | zero => simp at q; subst q; simp [borrows]
      | succ j =>
        have := ih.mpr ⟨j, by simpa using q⟩
        cases w <;> simp [borrows, this]
theorem nodup_bor : ∀ {ws : List Slot}, (borrows ws).Nodup → ∀ (j j' i : Nat), ws[j]? = some (.bor i) → ws[j']? = some (.bor i) → j = j'
  | [], _, j, j', i, h, _ => by simp at h
  | w :: ws, nd, j, j', i, h, h' => by
    have nd' : (borrows ws).Nodup := by cases w <;> first | exact nd | exact (List.nodup_cons.mp nd).2
    cases j with
    | zero =>
      cases j' with
      | zero => rfl
      | succ j' =>
        simp at h; subst h
        exact absurd (mem_borrows.mpr ⟨j', by simpa using h'⟩) (List.nodup_cons.mp nd).1
    | succ j =>
      cases j' with
      | zero =>
        simp at h'; subst h'
        exact absurd (mem_borrows.mpr ⟨j, by simpa using h⟩) (List.nodup_cons.mp nd).1
      | succ j' => rw [nodup_bor nd' j j' i (by simpa using h) (by simpa using h')]
theorem back_at : ∀ {ws os : List Slot} {env env2 : En}, backF env ws os = some env2 → (borrows ws).Nodup → env2.length = env.length ∧ os.length = ws.length ∧ ∀ (i : Nat), (i ∉ borrows ws → env2[i]? = env[i]?) ∧
    ∀ (j : Nat), ws[j]? = some (.bor i) → ∃ (u u0 : U) (p : Bool), os[j]? = some (.own u true) ∧ env[i]? = some (.own u0 p) ∧ env2[i]? = some (.own u p)
  | [], [], env, env2, h, _ => by cases h; exact ⟨rfl, rfl, fun i => ⟨fun _ => rfl, fun j e => by simp at e⟩⟩
  | [], _ :: _, env, env2, h, _ => by simp [backF] at h
  | w :: ws, [], env, env2, h, _ => by cases w <;> simp [backF] at h
  | w :: ws, o :: os, env, env2, h, nd => by
    have plain : ∀ (hw : ∀ i, w ≠ .bor i), backF env ws os = some env2 → borrows (w :: ws) = borrows ws → env2.length = env.length ∧ (o :: os).length = (w :: ws).length ∧ ∀ (i : Nat), (i ∉ borrows (w :: ws) → env2[i]? = env[i]?) ∧
        ∀ (j : Nat), (w :: ws)[j]? = some (.bor i) → ∃ (u u0 : U) (p : Bool), (o :: os)[j]? = some (.own u true) ∧ env[i]? = some (.own u0 p) ∧ env2[i]? = some (.own u p) := fun hw h eb => by
      obtain ⟨l1, l2, q⟩ := back_at h (by rw [← eb]; exact nd)
      refine ⟨l1, by simp [l2], fun i => ⟨fun hi => (q i).1 (by rw [← eb]; exact hi), fun j e => ?_⟩⟩
      cases j with
      | zero => simp at e; exact absurd e (hw i)
      | succ j => simpa using (q i).2 j (by simpa using e)
    cases w with
    | emp => exact plain (fun i z => by cases z) (by simpa [backF] using h) rfl
    | val u => exact plain (fun i z => by cases z) (by simpa [backF] using h) rfl
    | own u p => exact plain (fun i z => by cases z) (by simpa [backF] using h) rfl
    | bor i0 =>
      cases o with
      | own u pn =>
        cases pn with
        | true =>
          simp only [backF] at h
          cases e0 : env[i0]? with
          | none => rw [e0] at h; cases h
          | some t =>
            cases t with
            | own u0 p =>
              simp only [e0] at h
              have nd1 := List.nodup_cons.mp nd
              obtain ⟨l1, l2, q⟩ := back_at h nd1.2
              rw [List.length_set] at l1
              refine ⟨l1, by simp [l2], fun i => ⟨fun hi => ?_, fun j e => ?_⟩⟩
              · simp only [borrows, List.mem_cons, not_or] at hi
                rw [(q i).1 hi.2, List.getElem?_set_ne (fun z => hi.1 z.symm)]
              · cases j with
                | zero =>
                  simp at e
                  subst e
                  exact ⟨u, u0, p, rfl, e0, by rw [(q i0).1 nd1.1, List.getElem?_set_self (ltOf e0)]⟩
                | succ j =>
                  have e' : ws[j]? = some (.bor i) := by simpa using e
                  have ne : i0 ≠ i := fun z => by subst z; exact nd1.1 (mem_borrows.mpr ⟨j, e'⟩)
                  obtain ⟨u1, u2, p1, r1, r2, r3⟩ := (q i).2 j e'
                  exact ⟨u1, u2, p1, by simpa using r1, by rw [List.getElem?_set_ne ne] at r2; exact r2, r3⟩
            | emp => simp [e0] at h
            | val u => simp [e0] at h
            | bor u => simp [e0] at h
        | false => simp [backF] at h
      | emp => simp [backF] at h
      | val u => simp [backF] at h
      | bor u => simp [backF] at h
section
variable {K : PySem.W.Frag} {fa : FA} {n : Nat} {F1 H1 : Hp} {σ : L2.St} {env1 : En}
/-- what a call does to the caller's places -/
theorem call_core {vs : List V} {ws as : List Slot} {md : List Bool} (S1 : Sim K fa n F1 H1 (σ ++ vs.map some) (env1 ++ ws)) (hn : σ.length = n) (he : env1.length = n) (ha : argsF env1 md ws = some as) (nd : (borrows ws).Nodup) :
    ∃ F', Sim K fa n F' H1 σ env1 ∧ Stp F1 H1 (σ ++ vs.map some) (env1 ++ ws) F' H1 (σ ++ vs.map some) (env1 ++ mix ws as) ∧ as.length = md.length ∧ vs.length = md.length ∧
      (∀ j : Nat, (md[j]? = some false → ∃ u, as[j]? = some (.val u)) ∧ (md[j]? = some true → ∃ u, as[j]? = some (.own u true))) ∧ Sim K fa 0 F' H1 (vs.map some) as ∧
      ∀ (os : List Slot) (env2 : En) (F2 H2 : Hp) (τ : L2.St) (ws2 : En), backF env1 ws os = some env2 → Sim K fa 0 F2 H2 (vs.map some ++ τ) (os ++ ws2) → Stp F' H1 (vs.map some) as F2 H2 (vs.map some ++ τ) (os ++ ws2) → τ.length = ws2.length →
        Sim K fa n F2 H2 (σ ++ τ) (env2 ++ ws2) ∧ Stp F' H1 σ env1 F2 H2 (σ ++ τ) (env2 ++ ws2) ∧ env2.length = n := by
  obtain ⟨F', S2, st2⟩ := args_freeze S1 ha
  obtain ⟨la, lw, hat⟩ := args_at ha
  have lv : vs.length = ws.length := len_side S1 (by omega)
  have S' := S2.head (by omega) (by omega)
  -- the places of the call, one by one
  have atv : ∀ (j : Nat) (s : Slot), as[j]? = some s → (∃ u v, s = .val u ∧ vs[j]? = some v ∧ Rep K fa F' v u) ∨
      ∃ u i p a o, s = .own u true ∧ ws[j]? = some (.bor i) ∧ env1[i]? = some (.own u p) ∧ vs[j]? = some (.ref a) ∧ σ[i]? = some (some (.ref a)) ∧ H1 a = some o ∧ Hold K fa F' o u ∧ F' a = none := fun j s e => by
    rcases hat j s e with ⟨u, w, rfl, _, _, _, h5⟩ | ⟨u, i, p, rfl, h2, h3, _, h5⟩
    · obtain ⟨v, q1, q2⟩ := S2.slot (n + j) (.val u) (by rw [getR (by omega), he, Nat.add_sub_cancel_left]; exact h5)
      rw [getR (by omega), hn, Nat.add_sub_cancel_left] at q1
      refine .inl ⟨u, v, rfl, ?_, q2⟩
      simpa using q1
    · obtain ⟨hi, v, q1, q2⟩ := S2.slot (n + j) (.bor i) (by rw [getR (by omega), he, Nat.add_sub_cancel_left]; exact h5)
      rw [getR (by omega), hn, Nat.add_sub_cancel_left] at q1
      rw [getL (by omega)] at q2
      obtain ⟨a, o, r1, r2, r3, r4⟩ := S'.slot i _ h3
      rw [q2] at r1
      cases r1
      exact .inr ⟨u, i, p, a, o, rfl, h2, h3, by simpa using q1, q2, r2, r3, r4⟩
  have ownv : ∀ a, Own (vs.map some) as a → ∃ (j i : Nat) (u : U) (p : Bool), ws[j]? = some (.bor i) ∧ env1[i]? = some (.own u p) ∧ σ[i]? = some (some (.ref a)) ∧ vs[j]? = some (.ref a) ∧ as[j]? = some (.own u true) := fun a ⟨j, u, p, e1, e2⟩ => by
    have e2 : vs[j]? = some (.ref a) := by simpa using e2
    rcases atv j _ e1 with ⟨u', v, z, _⟩ | ⟨u', i, p', a', o, z, h2, h3, h4, h5, _⟩
    · cases z
    · cases z
      rw [e2] at h4
      cases h4
      exact ⟨j, i, u, p', h2, h3, h5, e2, e1⟩
  have own1 : ∀ a, Own (vs.map some) as a → Own σ env1 a := fun a h => by
    obtain ⟨j, i, u, p, _, h2, h3, _⟩ := ownv a h
    exact ⟨i, u, p, h2, h3⟩
  refine ⟨F', S', st2, la, by omega, fun j => ⟨fun e => ?_, fun e => ?_⟩, ⟨by simp; omega, S'.fr, fun j s e => ?_, fun j j' a u u' p p' e1 e2 e3 e4 => ?_, S'.tab, S'.fnt⟩, fun os env2 F2 H2 τ ws2 hb S3 st3 hτ => ?_⟩
  · have hj : j < as.length := by have := ltOf e; omega
    rcases hat j as[j] (List.getElem?_eq_getElem hj) with ⟨u, w, z, _⟩ | ⟨u, i, p, z, _, _, h4, _⟩
    · exact ⟨u, by rw [List.getElem?_eq_getElem hj, z]⟩
    · rw [e] at h4; cases h4
  · have hj : j < as.length := by have := ltOf e; omega
    rcases hat j as[j] (List.getElem?_eq_getElem hj) with ⟨u, w, z, _, _, h4, _⟩ | ⟨u, i, p, z, _⟩
    · rw [e] at h4; cases h4
    · exact ⟨u, by rw [List.getElem?_eq_getElem hj, z]⟩
  · rcases atv j s e with ⟨u, v, rfl, h2, h3⟩ | ⟨u, i, p, a, o, rfl, h2, h3, h4, h5, h6, h7, h8⟩
    · exact ⟨v, by simpa using h2, h3⟩
    · exact ⟨a, o, by simpa using h4, h6, h7, h8⟩
  · have e3 : vs[j]? = some (.ref a) := by simpa using e3
    have e4 : vs[j']? = some (.ref a) := by simpa using e4
    rcases atv j _ e1 with ⟨u', v, z, _⟩ | ⟨u', i, q, b, o, z, h2, h3, h4, h5, _⟩
    · cases z
    · rcases atv j' _ e2 with ⟨u', v, z, _⟩ | ⟨u'', i', q', b', o', z, k2, k3, k4, k5, _⟩
      · cases z
      · rw [e3] at h4
        rw [e4] at k4
        cases h4
        cases k4
        have := S'.inj i i' a _ _ _ _ h3 k3 h5 k5
        subst this
        exact nodup_bor nd j j' i h2 k2
  · obtain ⟨l2, lo, bk⟩ := back_at hb nd
    have l2n : env2.length = n := by omega
    have lvo : vs.length = os.length := by omega
    -- an own place behind the call was one ahead of it
    have old : ∀ (i : Nat) (u : U) (p : Bool), env2[i]? = some (.own u p) → ∃ u0, env1[i]? = some (.own u0 p) := fun i u p e => by
      by_cases hi : i ∈ borrows ws
      · obtain ⟨j, hj⟩ := mem_borrows.mp hi
        obtain ⟨u1, u0, p1, _, q2, q3⟩ := (bk i).2 j hj
        rw [q3] at e
        cases e
        exact ⟨u0, q2⟩
      · rw [(bk i).1 hi] at e; exact ⟨u, e⟩
    have oself : ∀ (i : Nat) (u : U) (p : Bool) (a : Addr), env1[i]? = some (.own u p) → σ[i]? = some (some (.ref a)) → i ∉ borrows ws → ¬ Own (vs.map some) as a := fun i u p a h1 h2 hi z => by
      obtain ⟨j, i', u', p', k1, k2, k3, _⟩ := ownv a z
      have := S'.inj i i' a _ _ _ _ h1 k2 h2 k3
      subst this
      exact hi (mem_borrows.mpr ⟨j, k1⟩)
    have two : ∀ (i : Nat) (u : U) (p : Bool) (a : Addr), (env2 ++ ws2)[i]? = some (.own u p) → (σ ++ τ)[i]? = some (some (.ref a)) →
        (i < n ∧ (∃ u0, env1[i]? = some (.own u0 p)) ∧ σ[i]? = some (some (.ref a))) ∨ (n ≤ i ∧ (os ++ ws2)[os.length + (i - n)]? = some (.own u p) ∧ (vs.map some ++ τ)[os.length + (i - n)]? = some (some (.ref a))) := fun i u p a e1 e2 => by
      by_cases c : i < n
      · rw [getL (by omega)] at e1 e2
        exact .inl ⟨c, old i u p e1, e2⟩
      · rw [getR (by omega), l2n] at e1
        rw [getR (by omega), hn] at e2
        exact .inr ⟨by omega, by rw [getR (by omega), Nat.add_sub_cancel_left]; exact e1, by rw [getR (by simp; omega), List.length_map, lvo, Nat.add_sub_cancel_left]; exact e2⟩
    have last : ∀ (m : Nat) (u : U) (p : Bool) (a : Addr), (os ++ ws2)[os.length + m]? = some (.own u p) → (vs.map some ++ τ)[os.length + m]? = some (some (.ref a)) → Nob H1 a := fun m u p a e1 e2 => by
      rcases st3.sub a ⟨_, u, p, e1, e2⟩ with z | z
      · obtain ⟨j, i', u', p', k1, k2, k3, k4, k5⟩ := ownv a z
        obtain ⟨q1, u'', q2⟩ := st3.pin j u' k5
        have hj : j < os.length := by have := ltOf k5; omega
        have := S3.inj _ j a _ _ _ _ e1 q2 e2 (by rw [q1]; simpa using k4)
        omega
      · exact z
    refine ⟨⟨by simp only [List.length_append]; omega, S3.fr, fun i s e => ?_, fun i j a u u' p p' e1 e2 e3 e4 => ?_, S3.tab, S3.fnt⟩, ⟨st3.ext, fun a o e no => st3.keep a o e fun z => no (own1 a z), fun a ⟨i, u, p, e1, e2⟩ => ?_, fun a o e => (st3.new a o e).imp id fun z => z.imp (own1 a) id, fun i u e => ?_⟩, l2n⟩
    · by_cases c : i < n
      · rw [getL (by omega)] at e
        by_cases hi : i ∈ borrows ws
        · obtain ⟨j, hj⟩ := mem_borrows.mp hi
          obtain ⟨u1, u0, p1, q1, q2, q3⟩ := (bk i).2 j hj
          rw [q3] at e
          cases e
          have hjo : j < os.length := ltOf q1
          obtain ⟨a, o, r1, r2, r3, r4⟩ := S3.slot j (.own u1 true) (by rw [getL hjo]; exact q1)
          rw [getL (by simp; omega)] at r1
          have hja : j < as.length := by omega
          have r1' : vs[j]? = some (.ref a) := by simpa using r1
          rcases atv j as[j] (List.getElem?_eq_getElem hja) with ⟨u, v, z, _⟩ | ⟨u, i', p, b, o', z, h2, h3, h4, h5, _⟩
          · rcases hat j as[j] (List.getElem?_eq_getElem hja) with ⟨_, w, _, h2, h3, _⟩ | ⟨_, _, _, z', _⟩
            · rw [hj] at h2; cases h2; cases h3
            · rw [z] at z'; cases z'
          · rw [hj] at h2
            cases h2
            rw [r1'] at h4
            cases h4
            exact ⟨a, o, by rw [getL (by omega)]; exact h5, r2, r3, r4⟩
        · rw [(bk i).1 hi] at e
          refine (S'.slot i s e).move st3.ext (getL (by omega)) (fun j e2 => ?_) fun u p a o e2 q1 q2 q3 => ?_
          · subst e2
            obtain ⟨hj, _⟩ := S'.slot i (.bor j) e
            exact getL (by omega)
          · subst e2
            have no := oself i u p a e q1 hi
            have nt : ∀ ps, o ≠ .tbl ps := by
              obtain ⟨b, ob, r1, r2, r3, _⟩ := S'.slot i _ e
              rw [q1] at r1
              cases r1
              rw [q2] at r2
              cases r2
              exact r3.nt
            refine ⟨st3.keep a o q2 no nt, ?_⟩
            cases f : F2 a with
            | none => rfl
            | some ob =>
              rcases st3.new a ob f with z | z | z
              · rw [q3] at z; cases z
              · exact absurd z no
              · exact (z.no q2 nt).elim
      · rw [getR (by omega), l2n] at e
        refine (S3.slot (os.length + (i - n)) s (by rw [getR (by omega), Nat.add_sub_cancel_left]; exact e)).up (Nat.zero_le n) (fun _ => by omega) (.refl _) (by rw [getR (by omega), hn, getR (by simp; omega), List.length_map, lvo, Nat.add_sub_cancel_left]) (fun j e2 => ?_) fun _ _ _ _ _ _ a b => ⟨a, b⟩
        subst e2
        obtain ⟨hj, _⟩ := S3.slot (os.length + (i - n)) (.bor j) (by rw [getR (by omega), Nat.add_sub_cancel_left]; exact e)
        exact absurd hj.1 (Nat.not_lt_zero _)
    · rcases two i u p a e1 e3 with ⟨c1, ⟨u0, x1⟩, x2⟩ | ⟨c1, x1, x2⟩
      · rcases two j u' p' a e2 e4 with ⟨c2, ⟨u0', y1⟩, y2⟩ | ⟨c2, y1, y2⟩
        · exact S'.inj i j a _ _ _ _ x1 y1 x2 y2
        · obtain ⟨b, o, r1, r2, r3, _⟩ := S'.slot i _ x1
          rw [x2] at r1
          cases r1
          exact ((last _ _ _ _ y1 y2).no r2 r3.nt).elim
      · rcases two j u' p' a e2 e4 with ⟨c2, ⟨u0', y1⟩, y2⟩ | ⟨c2, y1, y2⟩
        · obtain ⟨b, o, r1, r2, r3, _⟩ := S'.slot j _ y1
          rw [y2] at r1
          cases r1
          exact ((last _ _ _ _ x1 x2).no r2 r3.nt).elim
        · have := S3.inj _ _ a _ _ _ _ x1 y1 x2 y2
          omega
    · rcases two i u p a e1 e2 with ⟨c1, ⟨u0, x1⟩, x2⟩ | ⟨c1, x1, x2⟩
      · exact .inl ⟨i, u0, p, x1, x2⟩
      · exact .inr (last _ _ _ _ x1 x2)
    · have hi : i < env1.length := ltOf e
      refine ⟨getL (by omega), ?_⟩
      rw [getL (by omega)]
      by_cases hb : i ∈ borrows ws
      · obtain ⟨j, hj⟩ := mem_borrows.mp hb
        obtain ⟨u1, u0, p1, q1, q2, q3⟩ := (bk i).2 j hj
        rw [e] at q2
        cases q2
        exact ⟨u1, q3⟩
      · exact ⟨u, by rw [(bk i).1 hb]; exact e⟩
end
section
variable {T : Tbl} {G : Gx} {fa : FA} {XR : XRt} {k : Nat}
/-- a call's run, from the arguments on the side -/
theorem call_out {X : Cx} {W : WX} {σ : L2.St} {F H F1 H1 : Hp} {env env1 : En} {ws : List Slot} {vs : List V} {f : Nat} {md : List Bool} {Q : VK} (hn : σ.length = X.N.length) (hmd : G.modes f = some md) (S1 : Sim X.K fa X.N.length F1 H1 (σ ++ vs.map some) (env1 ++ ws))
    (st1 : Stp F H σ env F1 H1 (σ ++ vs.map some) (env1 ++ ws)) (l0 : env.length = X.N.length) (l1 : env1.length = X.N.length) (o : Out X.K fa XR W X.N.length (fun w => [w]) F H σ env (callD G f ws env1) (fun _ vs H' => ∃ v, vs = [v] ∧ Q v H')) :
    spF X.K fa XR G.den f md vs H1 Q (WE W σ) := by
  unfold callD at o
  rw [hmd] at o
  simp only [Res.of_some, Res.bind_ok] at o
  obtain ⟨as, ha, o⟩ := Out.of o
  by_cases nd : (borrows ws).Nodup
  · rw [if_pos nd] at o
    obtain ⟨F', S', st', la, lv, hm, S0, fin⟩ := call_core S1 hn l1 ha nd
    have hst : Stp F H σ env F' H1 σ env1 := (st1.trans st').head (by omega) (by omega)
    refine ⟨F', as, la, lv, hm, S0, ?_⟩
    cases e : G.den f as with
    | bad => rw [e] at o; exact o.elim
    | exc x os =>
      rw [e] at o
      simp only at o
      intro F2 H2 cls d S2 st2 hx
      cases e2 : backF env1 ws os with
      | none => rw [e2] at o; exact o.elim
      | some env2 =>
        rw [e2] at o
        obtain ⟨S3, st3, l3⟩ := fin os env2 F2 H2 [] [] e2 (by simpa using S2) (by simpa using st2) rfl
        exact o F2 H2 cls d (by simpa using S3) (hst.trans (by simpa using st3)) hx
    | ok z =>
      obtain ⟨w, os⟩ := z
      rw [e] at o
      have main : ∀ (hw : Out X.K fa XR W X.N.length (fun w => [w]) F H σ env ((Res.of (backF env1 ws os)).bind fun env => .ok (w, env)) (fun _ vs H' => ∃ v, vs = [v] ∧ Q v H')) (v : V) (F2 H2 : Hp),
          Sim X.K fa 0 F2 H2 (vs.map some ++ [some v]) (os ++ [w]) → Stp F' H1 (vs.map some) as F2 H2 (vs.map some ++ [some v]) (os ++ [w]) → Q v H2 := fun hw v F2 H2 S2 st2 => by
        obtain ⟨env2, e2, hw⟩ := Out.of hw
        obtain ⟨S3, st3, l3⟩ := fin os env2 F2 H2 [some v] [w] e2 S2 st2 rfl
        obtain ⟨v', e', q⟩ := hw [v] F2 H2 S3 (hst.trans st3) l3
        cases e'
        exact q
      intro v F2 H2 S2 st2 _
      cases w with
      | val u => exact main o v F2 H2 S2 st2
      | own u p =>
        cases p with
        | false => exact main o v F2 H2 S2 st2
        | true => exact o.elim
      | emp => exact o.elim
      | bor _ => exact o.elim
  · rw [if_neg nd] at o
    exact o.elim
theorem pe_callS0 {X : Cx} {CX : CXT} {f : Addr} {fd : FuncData} {ps : List Str} {sp : Sp} {E : L2.St → XK} {x : Str} {p pos : Pos} (F : FnOk X.prog X.w X.K X.mg X.base CX k f fd ps sp) (hr : Room k X.A) (hg : Gl X x) (hm : X.mg x = some (.ref f)) (hk : PySem.W.keepIn X.K (.ref f) = true) (hb : Binds X.K fd ps []) (hx : ∀ σ, PassesAt CX X σ (E σ))
    (hdb : (x == ("__debug__" : Str)) = false) : PE X (.Call (.Name x p) [] [] pos) (tCallS sp E tNil) := by
  refine ⟨fun pins s σ H Q I h => ?_⟩
  refine wpAny_Call_Name_kw (ld_glob I hg hm ?_ hdb)
  exact PySem.W.callWith_K0 I.kIn hk (run_fnS (us := []) F hr hb (hx σ) I .nil h)
theorem ok_call {f : Nat} {es : E} (h : OkL T G fa XR k es) : OkE T G fa XR k (.call f es) := fun X W A ex hc => by
  cases ex <;> first | (simp [chkE] at hc; done) | skip
  rename_i g xs ks p
  cases g <;> first | (simp [chkE] at hc; done) | skip
  rename_i x q
  cases ks <;> first | (simp [chkE] at hc; done) | skip
  simp only [chkE, Bool.and_eq_true] at hc
  obtain ⟨⟨h0, h1⟩, h3⟩ := hc
  have h0 : T.hot = false := by simpa using h0
  split at h1
  · rename_i y hy
    obtain ⟨rfl, g1, g2, g3⟩ := globB_of h1
    obtain ⟨fad, q1, q2, q3⟩ := A.fns f _ hy
    obtain ⟨md, q3⟩ := q3 h0
    obtain ⟨fd, ps, hk, hb, hF⟩ := A.ok h0 f fad q1 md q3
    have fin : ∀ (t : TA), PE X (.Call (.Name x q) xs [] p) (tCallS (spF X.K fa XR G.den f md) (WE W) t) → (∀ σ H Q, tEvL G fa XR W X es σ H Q → t σ H Q) → PE X (.Call (.Name x q) xs [] p) (tEv G fa XR W X (.call f es)) := fun t pe ht => by
      refine PE.imp pe fun σ H Q ⟨F, env, hn, S, o⟩ => ?_
      simp only [evE] at o
      refine ht _ _ _ ?_
      obtain ⟨F0, env0, h0, S0, o0⟩ := evl hn S (.refl _ _ _ _) o
      refine ⟨F0, env0, h0, S0, o0.imp fun _ vs H1 ⟨F1, env1, ws, e1, S1, st1, l1⟩ => ?_⟩
      simp only [e1, Res.bind_ok] at o
      exact call_out hn q3 S1 st1 (S.len.symm.trans hn) l1 o
    cases xs with
    | nil =>
      have hes : es = .nil := by cases es <;> first | rfl | (simp [chkL] at h3)
      subst hes
      refine fin _ (pe_callS0 hF (A.room h0) g1 q2 hk hb (fun σ => L2N.passAt A.takes σ) g2) fun σ H Q ⟨F, env, hn, S, o⟩ => ?_
      exact o [] F H (by simpa using S) (by simpa using Stp.refl _ _ _ _) (S.len.symm.trans hn)
    | cons z zs =>
      have hp : plainB z = true := by
        cases es <;> first | (simp [chkL] at h3; done) | (simp only [chkL, Bool.and_eq_true] at h3; exact h3.1.2)
      have hpl : (backTo p (starEach zs X.env)).any (·.1) = false := by
        have := chkL_plain es (env := X.env) (pos := p) h3
        rw [star_cons hp] at this
        simpa [backTo] using this
      exact fin _ (pe_callS hF (A.room h0) g1 q2 hk hb (fun σ => L2N.passAt A.takes σ) (h X W A _ h3) g2 (star_cons hp) hpl) fun _ _ _ q => q
  · cases h1

def tCV (X : Cx) (W : WX) (k i : Nat) (t : TA) : TE := fun σ H Q => ∃ f fd ps sp, FnOk X.prog X.w X.K X.mg X.base (L2N.CX X.prog X.w) k f fd ps sp ∧ PySem.W.keepIn X.K (.ref f) = true ∧ Binds X.K fd ps [] ∧ σ[i]? = some (some (.ref f)) ∧ t σ H fun vs H1 => sp vs H1 Q (WE W σ)
theorem pe_cv {X : Cx} {W : WX} {i : Nat} {x : Str} {p pos : Pos} {e : Expr} {es : List Expr} {t : TA} (hr : Room k X.A) (tk : L2N.Takes X W) (hN : X.N[i]? = some x) (hv : Vis X.env.scope x) (ha : PA X (e :: es) t) (hdb : (x == ("__debug__" : Str)) = false) (hcd : (x == ("__classdict__" : Str)) = false)
    (he : starEach (e :: es) X.env = (false, eval e X.env) :: starEach es X.env) (hpl : (backTo pos (starEach es X.env)).any (·.1) = false) : PE X (.Call (.Name x p) (e :: es) [] pos) (tCV X W k i t) := by
  refine ⟨fun pins s σ H Q I h => ?_⟩
  obtain ⟨f, fd, ps, sp, F, hk, hb, hs, ht⟩ := h
  refine wpAny_Call_Name_kw (thn ((pe_var (pos := p) hN hv hdb hcd).run pins s σ H (fun v H1 => v = .ref f ∧ H1 = H) I ⟨.ref f, hs, rfl, rfl⟩) fun u s1 ⟨v, H1, I1, r1, q1⟩ => ?_)
  obtain ⟨rfl, rfl⟩ := q1
  cases r1
  refine PySem.W.callWith_K (h₀ := X.base) I.ok.mod.kin hk (thn (ha.run pos pins s1 σ _ _ I1 ht) fun us s2 ⟨vs, H2, I2, r, q⟩ => ⟨I2.kIn, ?_⟩) he hpl
  exact run_fnS F hr hb (L2N.passAt tk σ) I2 r q
theorem pe_cv0 {X : Cx} {W : WX} {i : Nat} {x : Str} {p pos : Pos} (hr : Room k X.A) (tk : L2N.Takes X W) (hN : X.N[i]? = some x) (hv : Vis X.env.scope x) (hdb : (x == ("__debug__" : Str)) = false) (hcd : (x == ("__classdict__" : Str)) = false) :
    PE X (.Call (.Name x p) [] [] pos) (tCV X W k i tNil) := by
  refine ⟨fun pins s σ H Q I h => ?_⟩
  obtain ⟨f, fd, ps, sp, F, hk, hb, hs, ht⟩ := h
  refine wpAny_Call_Name_kw (thn ((pe_var (pos := p) hN hv hdb hcd).run pins s σ H (fun v H1 => v = .ref f ∧ H1 = H) I ⟨.ref f, hs, rfl, rfl⟩) fun u s1 ⟨v, H1, I1, r1, q1⟩ => ?_)
  obtain ⟨rfl, rfl⟩ := q1
  cases r1
  exact PySem.W.callWith_K0 I1.kIn hk (run_fnS (us := []) F hr hb (L2N.passAt tk σ) I1 .nil ht)
theorem ok_cvar {i : Nat} {es : E} (h : OkL T G fa XR k es) : OkE T G fa XR k (.cvar i es) := fun X W A ex hc => by
  cases ex <;> first | (simp [chkE] at hc; done) | skip
  rename_i g xs ks p
  cases g <;> first | (simp [chkE] at hc; done) | skip
  rename_i x q
  cases ks <;> first | (simp [chkE] at hc; done) | skip
  simp only [chkE, Bool.and_eq_true] at hc
  obtain ⟨⟨h0, h1⟩, h3⟩ := hc
  have h0 : T.hot = false := by simpa using h0
  obtain ⟨g1, g2, g3, g4⟩ := nameB_of h1
  have fin : ∀ (t : TA), PE X (.Call (.Name x q) xs [] p) (tCV X W k i t) → (∀ σ H Q, tEvL G fa XR W X es σ H Q → t σ H Q) → PE X (.Call (.Name x q) xs [] p) (tEv G fa XR W X (.cvar i es)) := fun t pe ht => by
    refine PE.imp pe fun σ H Q ⟨F, env, hn, S, o⟩ => ?_
    simp only [evE] at o
    split at o
    · rename_i f e0
      obtain ⟨v, r1, r2⟩ := S.slot i _ e0
      cases r2
      rename_i fad hfa
      obtain ⟨md, hmd⟩ := A.md h0 f fad hfa
      · obtain ⟨fd, ps, hk, hb, hF⟩ := A.ok h0 f fad hfa md hmd
        refine ⟨fad, fd, ps, _, hF, hk, hb, r1, ht _ _ _ ?_⟩
        obtain ⟨F0, env0, h0, S0, o0⟩ := evl hn S (.refl _ _ _ _) o
        refine ⟨F0, env0, h0, S0, o0.imp fun _ vs H1 ⟨F1, env1, ws, e1, S1, st1, l1⟩ => ?_⟩
        simp only [e1, Res.bind_ok] at o
        exact call_out hn hmd S1 st1 (S.len.symm.trans hn) l1 o
    · exact o.elim
  cases xs with
  | nil =>
    have hes : es = .nil := by cases es <;> first | rfl | (simp [chkL] at h3)
    subst hes
    refine fin _ (pe_cv0 (A.room h0) A.takes g1 g2 g3 g4) fun σ H Q ⟨F, env, hn, S, o⟩ => ?_
    exact o [] F H (by simpa using S) (by simpa using Stp.refl _ _ _ _) (S.len.symm.trans hn)
  | cons z zs =>
    have hp : plainB z = true := by
      cases es <;> first | (simp [chkL] at h3; done) | (simp only [chkL, Bool.and_eq_true] at h3; exact h3.1.2)
    have hpl : (backTo p (starEach zs X.env)).any (·.1) = false := by
      have := chkL_plain es (env := X.env) (pos := p) h3
      rw [star_cons hp] at this
      simpa [backTo] using this
    exact fin _ (pe_cv (A.room h0) A.takes g1 g2 (h X W A _ h3) g3 g4 (star_cons hp) hpl) fun _ _ _ q => q
end
end PF
end
section
set_option Elab.async false
set_option autoImplicit false
set_option linter.all false
set_option maxRecDepth 100000
namespace PF
open PySem PySem.Spec PyProof.Rows L2

set_option maxHeartbeats 1000000 in
theorem meets_enumerate_new1 {v : Value} {o : Obj} {H : Heap → Prop} (B : Begins v o H) :
    Meets (Builtin.«enumerate.__new__» ⟨[.type "enumerate", v], []⟩) (fun _ R s => H s.heap ∧
      R (.ok (.ret (.ref (s.heap.push o).objs.size))) { s with heap := (s.heap.push o).push { cls := .type "enumerate", data := .fields #[.none, .bool false, .ref s.heap.objs.size, rawInt 0, .none, .none] } }) :=
  .of_wp fun prog w A R s h => by
    obtain ⟨hp, g, d, tk, os⟩ := s; obtain ⟨h1, h⟩ := h
    have hsub := sub_enumerate
    have q1 : ∀ {A' : Around} {E : Value → Shared → Prop} {Q : Value → Shared → Prop}, Q (.ref hp.objs.size) ⟨hp.push o, g, d, tk, os⟩ → wpAny (model prog w) A' (pyIter v) Q E ⟨hp, g, d, tk, os⟩ :=
      fun q => B.iter prog w _ _ ⟨hp, g, d, tk, os⟩ _ h1 q
    wp_walk using q1
    refine wpAny_stack_any fun st => wpAny_pure ?_
    split
    · rename_i c _ _ _ _ _
      cases (c == Value.type "enumerate")
      · wp_walk using q1
        exact ⟨_, rfl, h⟩
      · wp_walk using q1
        exact ⟨_, rfl, h⟩
    · wp_walk using q1
      exact ⟨_, rfl, h⟩
section
variable {prog : Program} {w : World} {A : Around} {E : Value → Shared → Prop} {s : Shared}
theorem enum_begins1 {v : Value} {o : Obj} {H : Heap → Prop} {Q : Value → Shared → Prop} (B : Begins v o H) (h1 : H s.heap)
    (h : ∀ h', IsEnum h' (s.heap.objs.size + 1) s.heap.objs.size 0 .none → h'.get? s.heap.objs.size = some o → h'.objs.size = s.heap.objs.size + 2 →
      (∀ b o, s.heap.get? b = some o → h'.get? b = some o) → Q (.ref (s.heap.objs.size + 1)) { s with heap := h' }) :
    wpAny (model prog w) A (call (.type "enumerate") [v]) Q E s := by
  refine callType_new F.called_enumerate (by decide) (F.typeCall_enumerate_1 _) (F.newCall_enumerate_1 _) (fun obj => F.args_object_init_2 obj _) F.entry_enumerate_new
    (meets_enumerate_new1 B) ⟨h1, ?_⟩
  have hz : (s.heap.push o).objs.size = s.heap.objs.size + 1 := Heap.size_push ..
  show _ ∧ _
  rw [hz]
  have he : IsEnum ((s.heap.push o).push { cls := .type "enumerate", data := .fields #[.none, .bool false, .ref s.heap.objs.size, rawInt 0, .none, .none] }) (s.heap.objs.size + 1) s.heap.objs.size 0 .none := by
    have := Heap.get?_push_size (s.heap.push o) (o := { cls := .type "enumerate", data := .fields #[.none, .bool false, .ref s.heap.objs.size, rawInt 0, .none, .none] }) rfl
    rw [hz] at this; exact this
  refine ⟨⟨_, he, rfl⟩, h _ he (Heap.get?_push_of_some _ (Heap.get?_push_size _ B.free)) (by rw [Heap.size_push, hz]) fun b o x => Heap.get?_push_of_some _ (Heap.get?_push_of_some _ x)⟩
end

section
variable {prog : Program} {w : World} {A : Around} {E : Value → Shared → Prop} {s : Shared}
theorem enum_endT {e it t : Addr} {items : Array Value} {n : Nat} {i : Int} {old : Value} {Q : Option Value → Shared → Prop}
    (hh : A.handled = none) (he : IsEnum s.heap e it i old) (hit : s.heap.IsTupleIter it t n) (ht : s.heap.IsTuple t items) (hn : items[n]? = none)
    (hQ : ∀ h', Heap.ExtBut it s.heap h' → Q none { s with heap := h' }) : wpAny (model prog w) A (pyNext (.ref e)) Q E s := by
  have hT : s.TypeIs (.ref e) "enumerate" := ⟨_, he, rfl⟩
  unfold pyNext
  refine wpAny_bind (wpAny_attempt (wpAny_callSpecial?_slot (name := Str.ofString "__next__") hT F.slot_enumerate_next
    (wpAny_call_entry F.slot_enumerate_next hT F.entry_enumerate_next ?_ (F.args_enumerate_next_1 _))))
  show wpAny _ _ (field (.ref e) 2 >>= _) _ _ _
  refine wpAny_bind (wpAny_field he rfl (x := .ref it) rfl ?_)
  refine wpAny_bind (wpAny_nextOf_tuple_end hh hit ht hn fun h' x he' hx' => ?_)
  obtain ⟨o, ho, hc⟩ := hx'
  refine wpAny_bind (wpAny_isInstance (T := "StopIteration") (b := true) ⟨o, ho, hc⟩ isSubtype_stop ?_)
  exact wpAny_pure (hQ _ he')
end
/-- the tuple at a, each item in a new pair -/
def IteT (K : PySem.W.Frag) (a : Addr) : It :=
  ⟨fun i H => ∃ (xs : List V) (x : V), SqT K H a xs ∧ xs[i]? = some x, fun i H v H' => ∃ T x, v = .ref T ∧ H T = none ∧ H' = upd H T (.tup [.int (i : Nat), x]) ∧ ∀ xs, SqT K H a xs → xs[i]? = some x, fun i H => ∃ xs : List V, SqT K H a xs ∧ xs.length ≤ i⟩
theorem turn_enumT {P : Program} {w : World} {K : PySem.W.Frag} {elts : List Expr} {kk : Nat} {tpos : Pos} (a e it : Addr) :
    Turn P w K (.Tuple elts kk tpos) (IteT K a) [e, it] e (fun i h => (∃ old, IsEnum h e it ((i : Nat) : Int) old) ∧ h.IsTupleIter it a i ∧ e ≠ it ∧ a ≠ it ∧ a ≠ e) where
  mem := by simp
  obj := fun i h st b hb => by
    obtain ⟨⟨old, he⟩, ⟨o, ho, hc, hd⟩, _⟩ := st
    have e' : b = e ∨ b = it := by simpa using hb
    rcases e' with z | z
    · rw [z]; exact ⟨_, he, fun v q => nomatch q⟩
    · rw [z]; exact ⟨o, ho, fun v q => by rw [hd] at q; cases q⟩
  keep := fun i h h' st k => let ⟨⟨old, he⟩, hi, hne⟩ := st; ⟨⟨old, k e (by simp) _ he⟩, hi.at fun o q => k it (by simp) o q, hne⟩
  item := by
    intro X hP hw hK hc i pins s σ H E I hf st hg
    subst hP hw hK
    obtain ⟨⟨old, he⟩, hit, hne, hai, hae⟩ := st
    obtain ⟨xs, x, hq, hx⟩ := hg
    obtain ⟨its, rv, p, hz⟩ := I.tuple hq
    obtain ⟨u, hu, ru⟩ := rv.get hx
    have hel : e < s.heap.objs.size := Heap.lt_size he
    have hil : it < s.heap.objs.size := by obtain ⟨_, q, _⟩ := hit; exact Heap.lt_size q
    refine wpAny_pyNext_enum_itemD (Draws.tuple (by exact (I.ok.hd hc)) it a hai its.toArray) he ⟨hit, show s.heap.IsTuple a its.toArray from p⟩ (i := i) (by have := ltOf hx; have := rv.length; simp; omega) hne (by simp [hne, Ne.symm hae]) fun x' h' tk hx' ho hst' hT hsz hk => ?_
    have ex : x' = u := by
      have q : its.toArray[i]? = some u := by simpa using hu
      rw [q] at hx'
      exact (Option.some.inj hx').symm
    subst ex
    refine ⟨_, rfl, wpAny_letOwnedTupleGo_enum (s := { s with heap := h', toks := tk + 1 }) ho fun h'' he' sb => ?_⟩
    have hT2 : h''.get? s.heap.objs.size = some { cls := .type "tuple", data := .seq #[.int i tk, x'] } := (sb.2 _ (Nat.ne_of_gt hel)).trans hT
    have new : ObjOk X.prog X.w (upd H s.heap.objs.size (.tup [.int (i : Nat), x])) h'' s.heap.objs.size (.tup [.int (i : Nat), x]) :=
      ⟨by show 2 ≤ sizeLine; decide, [.int i tk, x'], .cons ⟨_, rfl⟩ (.cons ru .nil), ⟨_, hT2, rfl, _, rfl⟩⟩
    have I1 : Inv X pins σ (upd H s.heap.objs.size (.tup [.int (i : Nat), x])) { s with heap := h'', toks := tk + 1 } :=
      I.turnedNew (ch := [e, it]) (fun b ob hb q => (sb.2 b (fun z => hb (by simp [z]))).trans (hk b ob (fun z => hb (by simp [z])) (fun z => hb (by simp [z])) q)) hf (Nat.le_refl _) new
    refine ⟨.ref s.heap.objs.size, _, I1, rfl, ⟨_, x, rfl, I.hok.fresh (Nat.le_refl _), rfl, fun ys hy => by rw [I.tuple_inj hy hq]; exact hx⟩, ⟨⟨x', ?_⟩, hst'.1.at fun o q => (sb.2 it (Ne.symm hne)).trans q, hne, hai, hae⟩, fun b hb => ?_⟩
    · have e1 : ((i + 1 : Nat) : Int) = (i : Int) + 1 := by omega
      rw [e1]; exact he'
    · have hb' : b < s.heap.objs.size := by
        have e' : b = e ∨ b = it := by simpa using hb
        rcases e' with z | z
        · rw [z]; exact hel
        · rw [z]; exact hil
      rw [upd_ne (Nat.ne_of_lt hb')]
      exact (hf b hb).1
  done := by
    intro X hP hw hK hc i pins s σ H E I hf st hg
    subst hP hw hK
    obtain ⟨⟨old, he⟩, hit, hne, hai, hae⟩ := st
    obtain ⟨xs, hq, hx⟩ := hg
    obtain ⟨its, rv, p, hz⟩ := I.tuple hq
    obtain ⟨f0, f1, f2, f3, f4, f5⟩ := hf it (by simp)
    have hl := rv.length
    have hp := Heap.lt_size he
    -- at the end: the iterator is spent
    refine enum_endT (I.ok.hd hc) he hit (show s.heap.IsTuple a its.toArray from p) (by simp; omega) fun h' eb => ⟨rfl, I.turned (t' := s.toks) (fun b o hb q => eb b o hb q) f0 f1 f3 f4 f5⟩
  self := fun A i s Q E st h => let ⟨⟨_, he⟩, _⟩ := st; wpAny_pyIter_enum he h
def iEnumA (K : PySem.W.Frag) (ta : TA) : TI := fun σ H R => ta σ H fun vs H1 => ∃ a xs, vs = [.ref a] ∧ ((SqL K H1 a xs ∧ R (Ite K a) H1) ∨ (SqT K H1 a xs ∧ R (IteT K a) H1))
theorem pi_enumA {X : Cx} {e : Expr} {ta : TA} {p pos tpos : Pos} {elts : List Expr} {kk : Nat} (hg : Gl X "enumerate") (hm : X.mg "enumerate" = none) (ha : PA X [e] ta) (hs : starEach [e] X.env = [(false, eval e X.env)] := by rfl) :
    PI X (.Tuple elts kk tpos) (.Call (.Name "enumerate" p) [e] [] pos) (iEnumA X.K ta) := by
  refine ⟨fun pins s σ H R I h => ?_⟩
  refine Call_ (ld_blt I hg hm boot_enumerate (PyProof.Rows.callWith_type1 (thn (ha.run pos pins s σ H _ I h) fun us s1 ⟨vs, H1, I1, r1, q1⟩ => ?_) hs rfl))
  obtain ⟨a, xs, ex, q1⟩ := q1
  subst ex
  cases r1 with
  | cons r rr =>
    cases rr
    cases r
    have fresh2 : ∀ b ∈ [s1.heap.objs.size + 1, s1.heap.objs.size], FpOk X pins H1 b := fun b hb => by
      have hle : s1.heap.objs.size ≤ b := by
        have e' : b = s1.heap.objs.size + 1 ∨ b = s1.heap.objs.size := by simpa using hb
        rcases e' with z | z
        · rw [z]; exact Nat.le_add_right _ _
        · rw [z]; exact Nat.le_refl _
      exact I1.fpOk hle (I1.hok.fresh hle)
    rcases q1 with ⟨hq, q⟩ | ⟨hq, q⟩
    · obtain ⟨its, rv, p', hz⟩ := I1.list hq
      refine call_enumerate_list p'.isList fun h' he hit hsz hk => wpAny_pyIter_enum he ?_
      have I2 : Inv X pins σ H1 { s1 with heap := h' } := I1.kept (t' := s1.toks) hk
      exact ⟨s1.heap.objs.size + 1, [s1.heap.objs.size + 1, s1.heap.objs.size], _, _, H1, rfl, I2, turn_enum a (s1.heap.objs.size + 1) s1.heap.objs.size, ⟨⟨.none, he⟩, hit, Nat.succ_ne_self _⟩, fresh2, q⟩
    · obtain ⟨its, rv, p', hz⟩ := I1.tuple hq
      have ht : s1.heap.IsTuple a its.toArray := p'
      have hal : a < s1.heap.objs.size := by obtain ⟨_, q, _⟩ := p'; exact Heap.lt_size q
      refine enum_begins1 (begins_tuple a its.toArray) ht fun h' he hit hsz hk => wpAny_pyIter_enum he ?_
      have I2 : Inv X pins σ H1 { s1 with heap := h' } := I1.kept (t' := s1.toks) hk
      exact ⟨s1.heap.objs.size + 1, [s1.heap.objs.size + 1, s1.heap.objs.size], _, _, H1, rfl, I2, turn_enumT a (s1.heap.objs.size + 1) s1.heap.objs.size, ⟨⟨.none, he⟩, ⟨_, hit, rfl, rfl⟩, Nat.succ_ne_self _, Nat.ne_of_lt hal, Nat.ne_of_lt (Nat.lt_succ_of_lt hal)⟩, fresh2, q⟩
end PF
end
section
set_option Elab.async false
set_option autoImplicit false
set_option linter.all false
set_option maxRecDepth 100000
namespace PF
open PySem PySem.Spec PyProof.Rows L2

/-- what an iterator yields, turn by turn, while what is frozen stays -/
def ItOk (K : PySem.W.Frag) (fa : FA) (J : It) (us : List U) (F : Hp) : Prop := ∀ (i : Nat) (F1 H1 : Hp), Sub F F1 → Sub F1 H1 →
  (∀ u, us[i]? = some u → J.go i H1 ∧ ∀ x H', J.yld i H1 x H' → ∃ F', OpPost K fa F1 H1 (.val u) x F' H') ∧ (us.length ≤ i → J.stop i H1)
section
variable {K : PySem.W.Frag} {fa : FA} {F : Hp}
theorem it_list {a : Addr} {vs : List V} {us : List U} (h : F a = some (.lst vs)) (r : RepAll K fa F vs us) : ItOk K fa (Itl K a) us F := fun i F1 H1 s1 s2 => by
  have q : SqL K H1 a vs := .of (s2 _ _ (s1 _ _ h))
  refine ⟨fun u hu => ?_, fun hi => ⟨vs, q, by have := r.length; omega⟩⟩
  obtain ⟨v, h1, h2⟩ := r.get hu
  refine ⟨⟨vs, v, q, h1⟩, fun x H' ⟨e, y⟩ => ?_⟩
  subst e
  have := y vs q
  rw [h1] at this
  cases this
  exact ⟨F1, .val s2 (h2.sub s1)⟩
theorem it_tup {a : Addr} {vs : List V} {us : List U} (h : SqT K F a vs) (r : RepAll K fa F vs us) : ItOk K fa (Itt K a) us F := fun i F1 H1 s1 s2 => by
  have q : SqT K H1 a vs := SqT.sub (s1.trans s2) h
  refine ⟨fun u hu => ?_, fun hi => ⟨vs, q, by have := r.length; omega⟩⟩
  obtain ⟨v, h1, h2⟩ := r.get hu
  refine ⟨⟨vs, v, q, h1⟩, fun x H' ⟨e, y⟩ => ?_⟩
  subst e
  have := y vs q
  rw [h1] at this
  cases this
  exact ⟨F1, .val s2 (h2.sub s1)⟩
theorem it_rng {i j : Int} : ItOk K fa (Itr i (j - i).toNat) (upU i j) F := fun k F1 H1 s1 s2 => by
  refine ⟨fun u hu => ?_, fun hi => by simp only [upU, List.length_map, List.length_range] at hi; exact hi⟩
  have hk := ltOf hu
  have hk' : k < (j - i).toNat := by simpa [upU] using hk
  simp only [upU, List.getElem?_map, List.getElem?_range hk', Option.map_some, Option.some.injEq] at hu
  subst hu
  refine ⟨hk', fun x H' ⟨e, y⟩ => ?_⟩
  subst e y
  exact ⟨F1, .val s2 (.int _)⟩
theorem it_rngC {i j : Int} : ItOk K fa (Itc i (-1) (i - j).toNat) (downU i j) F := fun k F1 H1 s1 s2 => by
  refine ⟨fun u hu => ?_, fun hi => by simp only [downU, List.length_map, List.length_range] at hi; exact hi⟩
  have hk := ltOf hu
  have hk' : k < (i - j).toNat := by simpa [downU] using hk
  simp only [downU, List.getElem?_map, List.getElem?_range hk', Option.map_some, Option.some.injEq] at hu
  subst hu
  refine ⟨hk', fun x H' ⟨e, y⟩ => ?_⟩
  subst e y
  exact ⟨F1, .val s2 (.int _)⟩
theorem enumU_get : ∀ {us : List U} {n i : Nat} {u : U}, (enumU n us)[i]? = some u → ∃ w, us[i]? = some w ∧ u = .tup [.int ((n + i : Nat) : Int), w]
  | [], n, i, u, h => by simp [enumU] at h
  | x :: r, n, 0, u, h => by simp [enumU] at h; subst h; exact ⟨x, rfl, rfl⟩
  | x :: r, n, i + 1, u, h => by
    obtain ⟨w, h1, h2⟩ := enumU_get (us := r) (n := n + 1) (i := i) (u := u) (by simpa [enumU] using h)
    exact ⟨w, by simpa using h1, by rw [h2, show n + 1 + i = n + (i + 1) by omega]⟩
theorem enumU_length : ∀ {us : List U} {n : Nat}, (enumU n us).length = us.length
  | [], _ => rfl
  | _ :: r, n => by simp [enumU, enumU_length (us := r)]
theorem it_enum {a : Addr} {vs : List V} {us : List U} (h : F a = some (.lst vs)) (r : RepAll K fa F vs us) : ItOk K fa (Ite K a) (enumU 0 us) F := fun i F1 H1 s1 s2 => by
  have q : SqL K H1 a vs := .of (s2 _ _ (s1 _ _ h))
  refine ⟨fun u hu => ?_, fun hi => ⟨vs, q, by have := r.length; rw [enumU_length] at hi; omega⟩⟩
  obtain ⟨w, hw, rfl⟩ := enumU_get hu
  obtain ⟨v, h1, h2⟩ := r.get hw
  refine ⟨⟨vs, v, q, h1⟩, fun x H' ⟨T, y, e1, e2, e3, e4⟩ => ?_⟩
  have := e4 vs q
  rw [h1] at this
  cases this
  subst e1 e3
  rw [Nat.zero_add]
  exact ⟨_, .tup s2 e2 (.cons (.int _) (.cons (h2.sub s1) .nil))⟩
theorem it_enumT {a : Addr} {vs : List V} {us : List U} (h : SqT K F a vs) (r : RepAll K fa F vs us) : ItOk K fa (IteT K a) (enumU 0 us) F := fun i F1 H1 s1 s2 => by
  have q : SqT K H1 a vs := SqT.sub (s1.trans s2) h
  refine ⟨fun u hu => ?_, fun hi => ⟨vs, q, by have := r.length; rw [enumU_length] at hi; omega⟩⟩
  obtain ⟨w, hw, rfl⟩ := enumU_get hu
  obtain ⟨v, h1, h2⟩ := r.get hw
  refine ⟨⟨vs, v, q, h1⟩, fun x H' ⟨T, y, e1, e2, e3, e4⟩ => ?_⟩
  have := e4 vs q
  rw [h1] at this
  cases this
  subst e1 e3
  rw [Nat.zero_add]
  exact ⟨_, .tup s2 e2 (.cons (.int _) (.cons (h2.sub s1) .nil))⟩
theorem zipU_get : ∀ {us ws : List U} {i : Nat} {u : U}, (zipU us ws)[i]? = some u → ∃ x y, us[i]? = some x ∧ ws[i]? = some y ∧ u = .tup [x, y]
  | [], _, i, u, h => by simp [zipU] at h
  | _ :: _, [], i, u, h => by simp [zipU] at h
  | x :: r, y :: t, 0, u, h => by simp [zipU] at h; subst h; exact ⟨x, y, rfl, rfl, rfl⟩
  | x :: r, y :: t, i + 1, u, h => by
    obtain ⟨a, b, h1, h2, h3⟩ := zipU_get (us := r) (ws := t) (i := i) (u := u) (by simpa [zipU] using h)
    exact ⟨a, b, by simpa using h1, by simpa using h2, h3⟩
theorem zipU_length : ∀ {us ws : List U}, (zipU us ws).length = min us.length ws.length
  | [], ws => by simp [zipU]
  | _ :: _, [] => by simp [zipU]
  | _ :: r, _ :: t => by simp [zipU, zipU_length (us := r) (ws := t)]
theorem it_zip {a b : Addr} {vs ys : List V} {us ws : List U} (h : F a = some (.lst vs)) (r : RepAll K fa F vs us) (h' : F b = some (.lst ys)) (r' : RepAll K fa F ys ws) : ItOk K fa (Itz K a b) (zipU us ws) F := fun i F1 H1 s1 s2 => by
  have q : SqL K H1 a vs := .of (s2 _ _ (s1 _ _ h))
  have q' : SqL K H1 b ys := .of (s2 _ _ (s1 _ _ h'))
  refine ⟨fun u hu => ?_, fun hi => ⟨vs, ys, q, q', by have := r.length; have := r'.length; rw [zipU_length] at hi; omega⟩⟩
  obtain ⟨w, w', hw, hw', rfl⟩ := zipU_get hu
  obtain ⟨v, h1, h2⟩ := r.get hw
  obtain ⟨v', h3, h4⟩ := r'.get hw'
  refine ⟨⟨vs, ys, v, v', q, q', h1, h3⟩, fun x H' ⟨T, y, y', e1, e2, e3, e4, e5⟩ => ?_⟩
  have z := e4 vs q
  rw [h1] at z
  cases z
  have z := e5 ys q'
  rw [h3] at z
  cases z
  subst e1 e3
  exact ⟨_, .tup s2 e2 (.cons (h2.sub s1) (.cons (h4.sub s1) .nil))⟩
theorem it_zipT {a b : Addr} {vs ys : List V} {us ws : List U} (h : SqT K F a vs) (r : RepAll K fa F vs us) (h' : SqT K F b ys) (r' : RepAll K fa F ys ws) : ItOk K fa (RZ.ItzT K a b) (zipU us ws) F := fun i F1 H1 s1 s2 => by
  have q : SqT K H1 a vs := SqT.sub (s1.trans s2) h
  have q' : SqT K H1 b ys := SqT.sub (s1.trans s2) h'
  refine ⟨fun u hu => ?_, fun hi => ⟨vs, ys, q, q', by have := r.length; have := r'.length; rw [zipU_length] at hi; omega⟩⟩
  obtain ⟨w, w', hw, hw', rfl⟩ := zipU_get hu
  obtain ⟨v, h1, h2⟩ := r.get hw
  obtain ⟨v', h3, h4⟩ := r'.get hw'
  refine ⟨⟨vs, ys, v, v', q, q', h1, h3⟩, fun x H' ⟨T, y, y', e1, e2, e3, e4, e5⟩ => ?_⟩
  have z := e4 vs q
  rw [h1] at z
  cases z
  have z := e5 ys q'
  rw [h3] at z
  cases z
  subst e1 e3
  exact ⟨_, .tup s2 e2 (.cons (h2.sub s1) (.cons (h4.sub s1) .nil))⟩
end

section
variable {K : PySem.W.Frag} {fa : FA} {XR : XRt} {W : WX} {n : Nat} {F F1 H H1 : Hp} {σ τ : L2.St} {env env1 : En}
def OutI (K : PySem.W.Frag) (fa : FA) (XR : XRt) (W : WX) (n : Nat) (F H : Hp) (σ : L2.St) (env : En) (r : Res (List U × En)) (R : It → Hp → Prop) : Prop := match r with
  | .ok (us, env') => ∀ J F' H', Sim K fa n F' H' σ env' → Stp F H σ env F' H' σ env' → env'.length = n → ItOk K fa J us F' → R J H'
  | .exc x env' => ∀ F' H' cls d, Sim K fa n F' H' σ env' → Stp F H σ env F' H' σ env' → XR F' H' x cls d → W cls d σ H'
  | .bad => False
theorem OutI.sub {α : Type} {sh : α → List Slot} {r : Res (α × En)} {k : α × En → Res (List U × En)} {R : It → Hp → Prop} (h : OutI K fa XR W n F H σ env (r.bind k) R) (st : Stp F H σ env F1 H1 σ env1) :
    Out K fa XR W n sh F1 H1 σ env1 r (fun a vs H' => ∃ F' env', r = .ok (a, env') ∧ Sim K fa n F' H' (σ ++ vs.map some) (env' ++ sh a) ∧ Stp F1 H1 σ env1 F' H' (σ ++ vs.map some) (env' ++ sh a) ∧ env'.length = n) := by
  cases r with
  | ok z => exact fun vs F' H' S' St hl => ⟨F', z.2, rfl, S', St, hl⟩
  | exc x e => exact fun F' H' cls d S St hx => h F' H' cls d S (st.trans St) hx
  | bad => exact h
theorem OutI.of {α : Type} {o : Option α} {k : α → Res (List U × En)} {R : It → Hp → Prop} (h : OutI K fa XR W n F H σ env ((Res.of o).bind k) R) : ∃ a, o = some a ∧ OutI K fa XR W n F H σ env (k a) R := by
  cases o with
  | none => exact h.elim
  | some a => exact ⟨a, rfl, h⟩
end
def tEvI (G : Gx) (fa : FA) (XR : XRt) (W : WX) (X : Cx) (e : E) : TI := fun σ H R => ∃ F env, σ.length = X.N.length ∧ Sim X.K fa X.N.length F H σ env ∧ OutI X.K fa XR W X.N.length F H σ env (evI G e env) R
def OkI (T : Tbl) (G : Gx) (fa : FA) (XR : XRt) (k : Nat) (e : E) : Prop := ∀ (X : Cx) (W : WX), Amb T G fa XR k W X → ∀ tg ex, chkI T X.N e X.env.scope tg ex = true → PI X tg ex (tEvI G fa XR W X e) ∧ (T.hot = true → L2H.PIH X tg ex (tEvI G fa XR W X e))
theorem PI.imp {X : Cx} {tg e : Expr} {t t' : TI} (h : PI X tg e t) (i : ∀ σ H R, t' σ H R → t σ H R) : PI X tg e t' := ⟨fun pins s σ H R I q => h.run pins s σ H R I (i σ H R q)⟩
def iSeq (K : PySem.W.Frag) (tl : TE) : TI := fun σ H R => tl σ H fun x H1 => ∃ a xs, x = .ref a ∧ ((SqL K H1 a xs ∧ R (Itl K a) H1) ∨ (SqT K H1 a xs ∧ R (Itt K a) H1))
theorem pi_seq {X : Cx} {tg l : Expr} {tl : TE} (hl : PE X l tl) : PI X tg l (iSeq X.K tl) := by
  refine ⟨fun pins s σ H R I h => ?_⟩
  refine thn (hl.run pins s σ H _ I h) fun v s1 ⟨x, H1, I1, r1, q1⟩ => ?_
  obtain ⟨a, xs, e, q⟩ := q1
  subst e
  cases r1
  rcases q with ⟨hq, q⟩ | ⟨hq, q⟩
  · obtain ⟨its, rv, p, hz⟩ := I1.list hq
    refine wpAny_pyIter_list p.isList ?_
    exact pi_one (tk := s1.toks) I1 _ (turn_list a _) ⟨_, Heap.get?_push_size _ rfl, rfl, rfl⟩ q
  · obtain ⟨its, rv, p, hz⟩ := I1.tuple hq
    refine wpAny_pyIter_tuple (show s1.heap.IsTuple a its.toArray from p) ?_
    exact pi_one (tk := s1.toks) I1 _ (turn_tuple a _) ⟨_, Heap.get?_push_size _ rfl, rfl, rfl⟩ q
theorem PIH.imp {X : Cx} {tg e : Expr} {t t' : TI} (h : L2H.PIH X tg e t) (i : ∀ σ H R, t' σ H R → t σ H R) : L2H.PIH X tg e t' := ⟨fun pins s σ H R I q => h.run pins s σ H R I (i σ H R q)⟩
theorem pi_seqQ {X : Cx} {tg l : Expr} {tl : TE} (hl : PE X l tl) : L2H.PIH X tg l (iSeq X.K tl) := ⟨fun pins s σ H R I h => by
  refine thn (hl.run pins s σ H _ I h) fun v s1 ⟨x, H1, J, rx, a, xs, ex, q⟩ => ?_
  subst ex
  cases rx
  have fresh : ∀ b ∈ [s1.heap.objs.size], FpOk X pins H1 b := fun b hb => by
    rw [List.mem_singleton.mp hb]
    exact J.fpOk (Nat.le_refl _) (J.hok.fresh (Nat.le_refl _))
  rcases q with ⟨hq, q⟩ | ⟨hq, q⟩
  · obtain ⟨its, rv, p, hz⟩ := J.list hq
    exact wpAny_pyIter_list p.isList ⟨s1.heap.objs.size, [s1.heap.objs.size], _, _, H1, rfl, J.kept (t' := s1.toks) fun b o e => Heap.get?_push_of_some _ e, turn_lstQ a _, ⟨_, Heap.get?_push_size _ rfl, rfl, rfl⟩, fresh, q⟩
  · obtain ⟨its, rv, p, hz⟩ := J.tuple hq
    exact wpAny_pyIter_tuple (show s1.heap.IsTuple a its.toArray from p) ⟨s1.heap.objs.size, [s1.heap.objs.size], _, _, H1, rfl, J.kept (t' := s1.toks) fun b o e => Heap.get?_push_of_some _ e, turn_tupQ a _, ⟨_, Heap.get?_push_size _ rfl, rfl, rfl⟩, fresh, q⟩⟩
section
variable {T : Tbl} {G : Gx} {fa : FA} {XR : XRt} {k : Nat} {W : WX} {X : Cx} {σ : L2.St} {H : Hp} {F : Hp} {env : En}
/-- the arguments, then what is walked -/
theorem evi {kk : ItK} {es : E} {R : It → Hp → Prop} (hn : σ.length = X.N.length) (S : Sim X.K fa X.N.length F H σ env) (o : OutI X.K fa XR W X.N.length F H σ env (evI G (.itr kk es) env) R) :
    tEvL G fa XR W X es σ H fun vs H1 => ∃ F2 us ys, RepAll X.K fa F2 vs us ∧ Sub F2 H1 ∧ itF kk us = some ys ∧ ∀ J, ItOk X.K fa J ys F2 → R J H1 := by
  simp only [evI] at o
  refine ⟨F, env, hn, S, (OutI.sub (sh := fun ws => ws) o (.refl _ _ _ _)).imp fun ws vs H1 ⟨F1, env1, e1, S1, st1, l1⟩ => ?_⟩
  rw [e1, Res.bind_ok] at o
  obtain ⟨us, e2, o⟩ := OutI.of o
  obtain ⟨ys, e3, o⟩ := OutI.of o
  obtain ⟨F2, S2, st2, r⟩ := freeze_side S1 (by omega) e2
  have hln := S.len
  exact ⟨F2, us, ys, r, S2.fr, e3, fun J hJ => o J F2 H1 (S2.head (by omega) (by omega)) ((st1.trans st2).head (by omega) (by omega)) l1 hJ⟩
theorem RepAll.one {K : PySem.W.Frag} {vs : List V} {u : U} (h : RepAll K fa F vs [u]) : ∃ v, vs = [v] ∧ Rep K fa F v u := by
  cases h with | cons r t => cases t; exact ⟨_, rfl, r⟩
theorem RepAll.two {K : PySem.W.Frag} {vs : List V} {u w : U} (h : RepAll K fa F vs [u, w]) : ∃ v v', vs = [v, v'] ∧ Rep K fa F v u ∧ Rep K fa F v' w := by
  cases h with | cons r t => obtain ⟨v', rfl, r'⟩ := RepAll.one t; exact ⟨_, _, rfl, r, r'⟩
theorem near_of {i : Int} (h : near i = true) : -(2 ^ 62) ≤ i ∧ i < 2 ^ 62 := by simpa [near] using h
theorem itF_plain {us ys : List U} (h : itF .plain us = some ys) : us = [.lst ys] ∨ us = [.tup ys] := by
  rcases us with _ | ⟨u, _ | ⟨_, _⟩⟩ <;> first | (simp [itF] at h; done) | skip
  cases u <;> simp [itF] at h <;> simp [h]
  all_goals (cases u <;> simp [itF] at h)
theorem itF_rng1 {us ys : List U} (h : itF .rng1 us = some ys) : ∃ j, us = [.int j] ∧ near j = true ∧ ys = upU 0 j := by
  rcases us with _ | ⟨u, _ | ⟨_, _⟩⟩ <;> first | (simp [itF] at h; done) | skip
  · cases u <;> first | (simp [itF] at h; done) | skip
    simp only [itF, Option.ite_none_right_eq_some, Option.some.injEq] at h
    exact ⟨_, rfl, h.1, h.2.symm⟩
theorem itF_rng2 {us ys : List U} (h : itF .rng2 us = some ys) : ∃ i j, us = [.int i, .int j] ∧ near i = true ∧ near j = true ∧ ys = upU i j := by
  rcases us with _ | ⟨u, _ | ⟨w, _ | ⟨_, _⟩⟩⟩ <;> first | (simp [itF] at h; done) | (cases u <;> simp [itF] at h; done) | skip
  · cases u <;> cases w <;> first | (simp [itF] at h; done) | skip
    simp only [itF, Option.ite_none_right_eq_some, Option.some.injEq, Bool.and_eq_true] at h
    exact ⟨_, _, rfl, h.1.1, h.1.2, h.2.symm⟩
theorem itF_rng3 {us ys : List U} (h : itF .rng3 us = some ys) : ∃ i j, us = [.int i, .int j, .int (-1)] ∧ near i = true ∧ near j = true ∧ ys = downU i j := by
  rcases us with _ | ⟨u, _ | ⟨w, _ | ⟨z, _ | ⟨_, _⟩⟩⟩⟩ <;> first | (simp [itF] at h; done) | (cases u <;> simp [itF] at h; done) | (cases u <;> cases w <;> simp [itF] at h; done) | skip
  · cases u <;> cases w <;> cases z <;> first | (simp [itF] at h; done) | skip
    simp only [itF, Option.ite_none_right_eq_some, Option.some.injEq, Bool.and_eq_true, beq_iff_eq] at h
    obtain ⟨⟨⟨h1, h2⟩, h3⟩, h4⟩ := h
    subst h3
    exact ⟨_, _, rfl, h1, h2, h4.symm⟩
theorem itF_enum {us ys : List U} (h : itF .enum us = some ys) : ∃ xs, (us = [.lst xs] ∨ us = [.tup xs]) ∧ ys = enumU 0 xs := by
  rcases us with _ | ⟨u, _ | ⟨_, _⟩⟩ <;> first | (simp [itF] at h; done) | skip
  · cases u <;> simp [itF] at h <;> exact ⟨_, by simp, h.symm⟩
theorem itF_zip {us ys : List U} (h : itF .zip us = some ys) : ∃ xs zs, (us = [.lst xs, .lst zs] ∨ us = [.tup xs, .tup zs]) ∧ ys = zipU xs zs := by
  rcases us with _ | ⟨u, _ | ⟨w, _ | ⟨_, _⟩⟩⟩ <;> first | (simp [itF] at h; done) | (cases u <;> simp [itF] at h; done) | skip
  · cases u <;> cases w <;> simp [itF] at h <;> exact ⟨_, _, by simp, h.symm⟩
theorem tupB_of {tg : Expr} (h : tupB tg = true) : ∃ a b c, tg = .Tuple a b c := by cases tg <;> first | exact ⟨_, _, _, rfl⟩ | cases h
theorem chkL_head {N : List Str} {es : E} {sc : Scope} {x : Expr} {xs : List Expr} (h : chkL T N es sc (x :: xs) = true) : plainB x = true ∧ ∃ r, chkL T N r sc xs = true := by
  cases es <;> first | (simp [chkL] at h; done) | skip
  simp only [chkL, Bool.and_eq_true] at h
  exact ⟨h.1.2, _, h.2⟩
theorem ok_itr_plain {e : E} (he : OkE T G fa XR k e) : OkI T G fa XR k (.itr .plain (.cons e .nil)) := fun X W A tg ex hc => by
  simp only [chkI] at hc
  have key : ∀ σ H R, tEvI G fa XR W X (.itr .plain (.cons e .nil)) σ H R → iSeq X.K (tEv G fa XR W X e) σ H R := fun σ H R ⟨F, env, hn, S, o⟩ => ?_
  · exact ⟨PI.imp (pi_seq (he X W A ex hc)) key, fun _ => PIH.imp (pi_seqQ (he X W A ex hc)) key⟩
  simp only [evI, evL] at o
  cases e1 : evE G e env with
  | bad => rw [e1] at o; exact o.elim
  | exc x en =>
    rw [e1] at o
    exact ⟨F, env, hn, S, by rw [e1]; exact o⟩
  | ok z =>
    rw [e1] at o
    simp only [Res.bind_ok] at o
    obtain ⟨us, e2, o⟩ := OutI.of o
    obtain ⟨ys, e3, o⟩ := OutI.of o
    refine ⟨F, env, hn, S, ?_⟩
    rw [e1]
    intro vs F1 H1 S1 st1 l1
    obtain ⟨F2, S2, st2, r⟩ := freeze_side S1 (by omega) e2
    have hln := S.len
    have fin : ∀ J, ItOk X.K fa J ys F2 → R J H1 := fun J hJ => o J F2 H1 (S2.head (by omega) (by omega)) ((st1.trans st2).head (by omega) (by omega)) l1 hJ
    rcases itF_plain e3 with rfl | rfl
    · obtain ⟨v, rfl, r1⟩ := RepAll.one r
      cases r1 with
      | lst h1 h2 => exact ⟨_, rfl, _, _, rfl, .inl ⟨.of (S2.fr _ _ h1), fin _ (it_list h1 h2)⟩⟩
    · obtain ⟨v, rfl, r1⟩ := RepAll.one r
      cases r1 with
      | tup h1 h2 => exact ⟨_, rfl, _, _, rfl, .inr ⟨SqT.sub S2.fr h1, fin _ (it_tup h1 h2)⟩⟩
theorem glo {X : Cx} {x : Str} (h : X.env.scope.names.lookup x = some .globalImplicit) : Gl X x := h
/-- a call that makes an iterator: its kind and shape -/
theorem itr_shape {N : List Str} {sc : Scope} {tg ex : Expr} {kk : ItK} {es : E} (h : chkI T N (.itr kk es) sc tg ex = true) (hk : kk ≠ .plain) : T.hot = false ∧ ∃ x p args pos, ex = .Call (.Name x p) args [] pos ∧ itB T kk sc tg x args = true ∧ chkL T N es sc args = true := by
  cases ex <;> cases kk <;> first | exact (hk rfl).elim | (simp [chkI] at h; done) | skip
  all_goals
    rename_i f xs ks p
    cases f <;> cases ks <;> first | (simp [chkI] at h; done) | skip
    rename_i x q
    simp only [chkI, Bool.and_eq_true, Bool.not_eq_true'] at h
    exact ⟨h.1.1, x, q, xs, p, rfl, h.1.2, h.2⟩
theorem itr_plain {N : List Str} {sc : Scope} {tg ex : Expr} {es : E} (h : chkI T N (.itr .plain es) sc tg ex = true) : ∃ e, es = .cons e .nil := by
  unfold chkI at h
  split at h
  · rename_i z; cases z; exact ⟨_, rfl⟩
  · rename_i z; cases z; simp [itB] at h
  · cases h
theorem itB_rng {sc : Scope} {tg : Expr} {x : Str} {args : List Expr} {kk : ItK} (hr : rngB kk = true) (h : itB T kk sc tg x args = true) : globB sc x "range" = true ∧ T.free.contains x = true ∧
    ((kk = .rng1 ∧ ∃ a, args = [a]) ∨ (kk = .rng2 ∧ ∃ a b, args = [a, b]) ∨ (kk = .rng3 ∧ ∃ a b c, args = [a, b, c])) := by
  cases kk <;> first | (cases hr; done) | skip
  all_goals
    rcases args with _ | ⟨a, _ | ⟨b, _ | ⟨c, _ | ⟨_, _⟩⟩⟩⟩ <;> first | (simp [itB] at h; done) | skip
    simp only [itB, Bool.and_eq_true] at h
    refine ⟨h.1, h.2, ?_⟩
    simp
theorem itB_pair {sc : Scope} {tg : Expr} {x : Str} {args : List Expr} {kk : ItK} (hr : rngB kk = false) (h : itB T kk sc tg x args = true) : (∃ a b c, tg = .Tuple a b c) ∧ T.free.contains x = true ∧
    ((kk = .enum ∧ globB sc x "enumerate" = true ∧ ∃ a, args = [a]) ∨ (kk = .zip ∧ globB sc x "zip" = true ∧ ∃ a b, args = [a, b])) := by
  cases kk <;> first | (cases hr; done) | (simp [itB] at h; done) | skip
  all_goals
    rcases args with _ | ⟨a, _ | ⟨b, _ | ⟨c, _⟩⟩⟩ <;> first | (simp [itB] at h; done) | skip
    simp only [itB, Bool.and_eq_true] at h
    refine ⟨tupB_of h.1.1, h.2, ?_⟩
    simp [h.1.2]
theorem ok_itr {kk : ItK} {es : E} (he : OkL T G fa XR k es) (hk : kk ≠ .plain) : OkI T G fa XR k (.itr kk es) := fun X W A tg ex hc => by
  obtain ⟨h0, x, q, args, p, rfl, hi, h3⟩ := itr_shape hc hk
  refine ⟨?_, fun z => by rw [h0] at z; cases z⟩
  cases hr : rngB kk with
  | true =>
    obtain ⟨h1, h2, h⟩ := itB_rng hr hi
    obtain ⟨rfl, g1, g2, g3⟩ := globB_of h1
    rcases h with ⟨rfl, a, rfl⟩ | ⟨rfl, a, b, rfl⟩ | ⟨rfl, a, b, c, rfl⟩
    · obtain ⟨p1, _⟩ := chkL_head h3
      refine PI.imp (pi_range1 (glo g1) (A.free _ h2) (he X W A _ h3) (by rw [star_cons p1]; rfl)) fun σ H R ⟨F, env, hn, S, o⟩ => ?_
      obtain ⟨F', env', q1, q2, q⟩ := evi hn S o
      refine ⟨F', env', q1, q2, q.imp fun _ vs H1 ⟨F2, us, ys, r, s, e, fin⟩ => ?_⟩
      obtain ⟨j, rfl, hj, rfl⟩ := itF_rng1 e
      obtain ⟨v, rfl, r1⟩ := RepAll.one r
      cases r1
      have := near_of hj
      exact ⟨j, rfl, this.1, this.2, fin _ (by have := it_rng (K := X.K) (fa := fa) (F := F2) (i := 0) (j := j); rwa [Int.sub_zero] at this)⟩
    · obtain ⟨p1, _, h4⟩ := chkL_head h3
      obtain ⟨p2, _⟩ := chkL_head h4
      refine PI.imp (pi_range2 (glo g1) (A.free _ h2) (he X W A _ h3) (by rw [star_cons p1, star_cons p2]; rfl) (by rw [star_cons p2]; rfl)) fun σ H R ⟨F, env, hn, S, o⟩ => ?_
      obtain ⟨F', env', q1, q2, q⟩ := evi hn S o
      refine ⟨F', env', q1, q2, q.imp fun _ vs H1 ⟨F2, us, ys, r, s, e, fin⟩ => ?_⟩
      obtain ⟨i, j, rfl, hi, hj, rfl⟩ := itF_rng2 e
      obtain ⟨v, v', rfl, r1, r2⟩ := RepAll.two r
      cases r1
      cases r2
      have n1 := near_of hi
      have n2 := near_of hj
      exact ⟨i, j, rfl, ⟨n1.1, n1.2, n2.1, n2.2⟩, fin _ it_rng⟩
    · obtain ⟨p1, _, h4⟩ := chkL_head h3
      have hpl := chkL_plain (pos := p) _ (env := X.env) h4
      refine PI.imp (pi_range3 (glo g1) (A.free _ h2) (he X W A _ h3) (star_cons p1) hpl) fun σ H R ⟨F, env, hn, S, o⟩ => ?_
      obtain ⟨F', env', q1, q2, q⟩ := evi hn S o
      refine ⟨F', env', q1, q2, q.imp fun _ vs H1 ⟨F2, us, ys, r, s, e, fin⟩ => ?_⟩
      obtain ⟨i, j, rfl, hi, hj, rfl⟩ := itF_rng3 e
      cases r with
      | cons r1 t =>
        obtain ⟨v, v', rfl, r2, r3⟩ := RepAll.two t
        cases r1
        cases r2
        cases r3
        have n1 := near_of hi
        have n2 := near_of hj
        exact ⟨i, j, -1, _, rfl, RgC.neg n1.1 n1.2 n2.1 n2.2, fin _ it_rngC⟩
  | false =>
    obtain ⟨⟨_, _, _, rfl⟩, h2, h⟩ := itB_pair hr hi
    rcases h with ⟨rfl, h1, a, rfl⟩ | ⟨rfl, h1, a, b, rfl⟩
    · obtain ⟨rfl, g1, g2, g3⟩ := globB_of h1
      obtain ⟨p1, _⟩ := chkL_head h3
      refine PI.imp (pi_enumA (glo g1) (A.free _ h2) (he X W A _ h3) (by rw [star_cons p1]; rfl)) fun σ H R ⟨F, env, hn, S, o⟩ => ?_
      obtain ⟨F', env', q1, q2, q⟩ := evi hn S o
      refine ⟨F', env', q1, q2, q.imp fun _ vs H1 ⟨F2, us, ys, r, s, e, fin⟩ => ?_⟩
      obtain ⟨xs, hu, rfl⟩ := itF_enum e
      rcases hu with rfl | rfl
      · obtain ⟨v, rfl, r1⟩ := RepAll.one r
        cases r1 with
        | lst h1 h2 => exact ⟨_, _, rfl, .inl ⟨.of (s _ _ h1), fin _ (it_enum h1 h2)⟩⟩
      · obtain ⟨v, rfl, r1⟩ := RepAll.one r
        cases r1 with
        | tup h1 h2 => exact ⟨_, _, rfl, .inr ⟨SqT.sub s h1, fin _ (it_enumT h1 h2)⟩⟩
    · obtain ⟨rfl, g1, g2, g3⟩ := globB_of h1
      obtain ⟨p1, _, h4⟩ := chkL_head h3
      have hpl := chkL_plain (pos := p) _ (env := X.env) h4
      refine PI.imp (RZ.pi_zipA (glo g1) (A.free _ h2) (he X W A _ h3) (star_cons p1) hpl) fun σ H R ⟨F, env, hn, S, o⟩ => ?_
      obtain ⟨F', env', q1, q2, q⟩ := evi hn S o
      refine ⟨F', env', q1, q2, q.imp fun _ vs H1 ⟨F2, us, ys, r, s, e, fin⟩ => ?_⟩
      obtain ⟨xs, zs, hu, rfl⟩ := itF_zip e
      rcases hu with rfl | rfl
      · obtain ⟨v, v', rfl, r1, r2⟩ := RepAll.two r
        cases r1 with
        | lst h1 h2 =>
          cases r2 with
          | lst h3 h4 => exact ⟨_, _, _, _, rfl, .inl ⟨.of (s _ _ h1), .of (s _ _ h3), fin _ (it_zip h1 h2 h3 h4)⟩⟩
      · obtain ⟨v, v', rfl, r1, r2⟩ := RepAll.two r
        cases r1 with
        | tup h1 h2 =>
          cases r2 with
          | tup h3 h4 => exact ⟨_, _, _, _, rfl, .inr ⟨SqT.sub s h1, SqT.sub s h3, fin _ (it_zipT h1 h2 h3 h4)⟩⟩
end
end PF
end
section
set_option Elab.async false
set_option autoImplicit false
set_option linter.all false
set_option maxRecDepth 100000
namespace PF
open PySem PySem.Spec PyProof.Rows L2

section
variable {X : Cx}
/-- an expression that makes a range -/
def PRgC (X : Cx) (e : Expr) (t : L2.St → Hp → (Int → Int → Int → Hp → Prop) → Prop) : Prop :=
  ∀ (pins : List (Addr × Obj)) (s : Shared) (σ : L2.St) (H : Hp) (Q : Int → Int → Int → Hp → Prop), Inv X pins σ H s → t σ H Q →
    wpAny (model X.prog X.w) X.A (eval e X.env) (fun x s' => ∃ r a b c t u v H', x = .ref r ∧ IsRange s'.heap r a b c t u v ∧ Inv X pins σ H' s' ∧ Q a b c H') X.xe s
def tRgA1 (ta : TA) : L2.St → Hp → (Int → Int → Int → Hp → Prop) → Prop := fun σ H Q => ta σ H fun vs H1 => ∃ j : Int, vs = [.int j] ∧ Q 0 j 1 H1
def tRgA2 (ta : TA) : L2.St → Hp → (Int → Int → Int → Hp → Prop) → Prop := fun σ H Q => ta σ H fun vs H1 => ∃ i j : Int, vs = [.int i, .int j] ∧ Q i j 1 H1
def tRgA3 (ta : TA) : L2.St → Hp → (Int → Int → Int → Hp → Prop) → Prop := fun σ H Q => ta σ H fun vs H1 => ∃ i j c : Int, vs = [.int i, .int j, .int c] ∧ c ≠ 0 ∧ c.natAbs < 1073741824 ∧ Q i j c H1
theorem prgC1 {a : Expr} {ta : TA} {p pos : Pos} (hg : Gl X "range") (hm : X.mg "range" = none) (ha : PA X [a] ta) (hs : starEach [a] X.env = [(false, eval a X.env)]) : PRgC X (.Call (.Name "range" p) [a] [] pos) (tRgA1 ta) := by
  intro pins s σ H R I h
  refine Call_ (ld_blt I hg hm boot_range (PyProof.Rows.callWith_type1 (thn (ha.run pos pins s σ H _ I h) fun us s1 ⟨vs, H1, I1, r1, q1⟩ => ?_) hs rfl))
  obtain ⟨j, e, q⟩ := q1
  subst e
  cases r1 with
  | cons r rr =>
    cases rr
    obtain ⟨t, rfl⟩ := r
    exact call_range_1 ⟨_, 0, j, 1, _, _, _, H1, rfl, IsRange.new _ _ _ _ _ _ _, I1.kept fun b u e => Heap.get?_push_of_some _ e, q⟩
theorem prgC2 {a b : Expr} {ta : TA} {p pos : Pos} (hg : Gl X "range") (hm : X.mg "range" = none) (ha : PA X [a, b] ta) (hs : starEach [a, b] X.env = (false, eval a X.env) :: starEach [b] X.env) (hpl : (backTo pos (starEach [b] X.env)).any (·.1) = false) :
    PRgC X (.Call (.Name "range" p) [a, b] [] pos) (tRgA2 ta) := by
  intro pins s σ H R I h
  refine Call_ (ld_blt I hg hm boot_range (PyProof.Rows.callWith_type1 (thn (ha.run pos pins s σ H _ I h) fun us s1 ⟨vs, H1, I1, r1, q1⟩ => ?_) hs hpl))
  obtain ⟨i, j, e, q⟩ := q1
  subst e
  cases r1 with
  | cons r rr =>
    cases rr with
    | cons r' rr =>
      cases rr
      obtain ⟨t, rfl⟩ := r
      obtain ⟨t', rfl⟩ := r'
      exact call_range_2 ⟨_, i, j, 1, _, _, _, H1, rfl, IsRange.new _ _ _ _ _ _ _, I1.kept fun b u e => Heap.get?_push_of_some _ e, q⟩
theorem prgC3 {a b c : Expr} {ta : TA} {p pos : Pos} (hg : Gl X "range") (hm : X.mg "range" = none) (ha : PA X [a, b, c] ta) (hs : starEach [a, b, c] X.env = (false, eval a X.env) :: starEach [b, c] X.env) (hpl : (backTo pos (starEach [b, c] X.env)).any (·.1) = false) :
    PRgC X (.Call (.Name "range" p) [a, b, c] [] pos) (tRgA3 ta) := by
  intro pins s σ H R I h
  refine Call_ (ld_blt I hg hm boot_range (PyProof.Rows.callWith_type1 (thn (ha.run pos pins s σ H _ I h) fun us s1 ⟨vs, H1, I1, r1, q1⟩ => ?_) hs hpl))
  obtain ⟨i, j, k, e, c0, c1, q⟩ := q1
  subst e
  cases r1 with
  | cons r rr =>
    cases rr with
    | cons r' rr =>
      cases rr with
      | cons r'' rr =>
        cases rr
        obtain ⟨t, rfl⟩ := r
        obtain ⟨t', rfl⟩ := r'
        obtain ⟨t'', rfl⟩ := r''
        refine call_range_3 c0 ?_ (.inl (PyProof.noPylong_small c1))
        exact ⟨_, i, j, k, _, _, _, H1, rfl, IsRange.new _ _ _ _ _ _ _, I1.kept (t' := s1.toks) fun b o e => Heap.get?_push_of_some _ e, q⟩
def rgC (i c : Int) (n : Nat) : List V := (List.range n).map fun k => V.int (i + (k : Nat) * c)
def tLstC (te : L2.St → Hp → (Int → Int → Int → Hp → Prop) → Prop) : TE := fun σ H Q => te σ H fun i j c H1 => ∃ n, RgC i j c n ∧ n ≤ sizeLine ∧ ∀ q, H1 q = none → Q (.ref q) (upd H1 q (.lst (rgC i c n)))
theorem pe_listC {e : Expr} {te : L2.St → Hp → (Int → Int → Int → Hp → Prop) → Prop} {p pos : Pos} (hc : X.calm = true) (hg : Gl X "list") (hm : X.mg "list" = none) (he : PRgC X e te) (na : starEach [e] X.env = (false, eval e X.env) :: starEach [] X.env) : PE X (.Call (.Name "list" p) [e] [] pos) (tLstC te) := by
  refine ⟨fun pins s σ H Q I h => ?_⟩
  refine Call_ (ld_blt I hg hm boot_list (PyProof.Rows.callWith_type1 (args_cons (thn (he pins s σ H _ I h) fun x s1 ⟨r, a, b, c, t, u, v, H1, ex, hr, I1, n, ok, hn, q⟩ => args_nil ?_) na) na))
  subst ex
  obtain ⟨_, _, b4, b5⟩ := ok
  refine call_list_range (n := n) (I1.ok.hd hc) hr b4 b5 (by rw [sizeLine_eq] at hn; omega) fun h' tk acc c' hk e' hi => ?_
  have hv : Vals (rgC a c n) acc.toList := by
    have e : acc.toList.length = n := by rw [Array.length_toList]; exact hi.1
    unfold rgC
    rw [← e]
    exact vals_of_get acc.toList _ fun j u hj => hi.2 j u (by rw [← hj, Array.getElem?_toList])
  refine ⟨.ref s1.heap.objs.size, upd H1 s1.heap.objs.size (.lst (rgC a c n)), I1.laid hk (Nat.le_refl _) (show ObjOk X.prog X.w _ _ _ (.lst (rgC a c n)) from ⟨?_, acc.toList, c', hv, ?_⟩), rfl, q _ (I1.hok.fresh (Nat.le_refl _))⟩
  · unfold rgC; rw [List.length_map, List.length_range]; exact hn
  · rw [Array.toArray_toList]; exact e'
def tTupC (te : L2.St → Hp → (Int → Int → Int → Hp → Prop) → Prop) : TE := fun σ H Q => te σ H fun i j c H1 => ∃ n, RgC i j c n ∧ n ≤ sizeLine ∧ ∀ q, H1 q = none → Q (.ref q) (upd H1 q (.tup (rgC i c n)))
theorem pe_tupC {e : Expr} {te : L2.St → Hp → (Int → Int → Int → Hp → Prop) → Prop} {p pos : Pos} (hc : X.calm = true) (hg : Gl X "tuple") (hm : X.mg "tuple" = none) (he : PRgC X e te) (na : starEach [e] X.env = (false, eval e X.env) :: starEach [] X.env) : PE X (.Call (.Name "tuple" p) [e] [] pos) (tTupC te) := by
  refine ⟨fun pins s σ H Q I h => ?_⟩
  refine Call_ (ld_blt I hg hm boot_tuple (PyProof.Rows.callWith_type1 (args_cons (thn (he pins s σ H _ I h) fun x s1 ⟨r, a, b, c, t, u, v, H1, ex, hr, I1, n, ok, hn, q⟩ => args_nil ?_) na) na))
  subst ex
  obtain ⟨_, _, b4, b5⟩ := ok
  refine call_tuple_range (n := n) (I1.ok.hd hc) hr b4 b5 (by rw [sizeLine_eq] at hn; omega) fun h' tk acc hk hi => ?_
  have hv : Vals (rgC a c n) acc.toList := by
    have e : acc.toList.length = n := by rw [Array.length_toList]; exact hi.1
    unfold rgC
    rw [← e]
    exact vals_of_get acc.toList _ fun j u hj => hi.2 j u (by rw [← hj, Array.getElem?_toList])
  have I2 : Inv X pins σ H1 { s1 with heap := h', toks := tk } := I1.kept hk
  refine ⟨.ref h'.objs.size, upd H1 h'.objs.size (.tup (rgC a c n)), I2.laid (t' := tk) (fun c o e => Heap.get?_push_of_some _ e) (Nat.le_refl _) (show ObjOk X.prog X.w _ _ _ (.tup (rgC a c n)) from ⟨?_, acc.toList, hv, ?_⟩), rfl, q _ (I2.hok.fresh (Nat.le_refl _))⟩
  · show (rgC a c n).length ≤ sizeLine; unfold rgC; rw [List.length_map, List.length_range]; exact hn
  · rw [Array.toArray_toList]; exact IsTup.new _ _
end
section
variable {T : Tbl} {G : Gx} {fa : FA} {XR : XRt} {k : Nat} {W : WX} {X : Cx} {σ : L2.St} {H : Hp} {F : Hp} {env : En}
theorem RepAll.of_rg {K : PySem.W.Frag} {i c : Int} : ∀ {n : Nat}, RepAll K fa F (rgC i c n) ((List.range n).map fun (k : Nat) => U.int (i + (k : Int) * c)) := fun {n} => by
  unfold rgC
  generalize List.range n = l
  induction l with
  | nil => exact .nil
  | cons x r ih => exact .cons (.int _) ih
theorem upU_eq (i j : Int) : upU i j = (List.range (j - i).toNat).map fun (k : Nat) => U.int (i + (k : Int) * 1) := by simp [upU]
theorem RgC.one {i j : Int} (ha : near i = true) (hb : near j = true) : RgC i j 1 (j - i).toNat := by
  have n1 := near_of ha
  have n2 := near_of hb
  exact ⟨by decide, by decide, small_one n1.1 n1.2 n2.1 n2.2, rangeSize_nat i j⟩
/-- the arguments of range, then the list -/
theorem evr {kk : ItK} {es : E} {Q : VK} (hn : σ.length = X.N.length) (S : Sim X.K fa X.N.length F H σ env) (o : Out X.K fa XR W X.N.length (fun w => [w]) F H σ env (evE G (.lrg kk es) env) (fun _ vs H' => ∃ v, vs = [v] ∧ Q v H')) :
    tEvL G fa XR W X es σ H fun vs H1 => ∃ F1 us ys, Sub F1 H1 ∧ BReps X.K fa F1 H1 vs us ∧ itF kk us = some ys ∧ ys.length ≤ sizeLine ∧ ∀ xs q, (∀ F, RepAll X.K fa F xs ys) → H1 q = none → Q (.ref q) (upd H1 q (.lst xs)) := by
  simp only [evE] at o
  obtain ⟨F0, env0, h0, S0, o0⟩ := evl hn S (.refl _ _ _ _) o
  refine ⟨F0, env0, h0, S0, o0.imp fun _ vs H1 ⟨F1, env1, ws, e1, S1, st1, l1⟩ => ?_⟩
  have hln := S.len
  simp only [e1, Res.bind_ok] at o
  obtain ⟨us, e2, o⟩ := Out.of o
  obtain ⟨ys, e3, o⟩ := Out.of o
  split at o
  · rename_i hz
    refine ⟨F1, us, ys, S1.fr, looks_side S1 (by omega) (by omega) e2, e3, hz, fun xs q hr hq => ?_⟩
    have S2 := S1.head (by omega) (by omega)
    obtain ⟨v', e', r⟩ := Out.post S2 (st1.head (by omega) (by omega)) l1 o (.own S2.fr hq (.lst (hr _)))
    cases e'
    exact r
  · exact o.elim
theorem ok_lrg {kk : ItK} {es : E} (he : OkL T G fa XR k es) : OkE T G fa XR k (.lrg kk es) := fun X W A ex hc => by
  cases ex <;> first | (simp [chkE] at hc; done) | skip
  rename_i f xs ks p
  cases f <;> first | (simp [chkE] at hc; done) | skip
  cases ks <;> rcases xs with _ | ⟨y, _ | ⟨_, _⟩⟩ <;> first | (simp [chkE] at hc; done) | skip
  cases y <;> first | (simp [chkE] at hc; done) | skip
  rename_i f' args ks' p'
  cases f' <;> first | (simp [chkE] at hc; done) | skip
  cases ks' <;> first | (simp [chkE] at hc; done) | skip
  simp only [chkE, Bool.and_eq_true, Bool.not_eq_true'] at hc
  obtain ⟨⟨⟨⟨⟨h0, h1⟩, h2⟩, hr⟩, hi⟩, h3⟩ := hc
  obtain ⟨rfl, g1, g2, g3⟩ := globB_of h1
  obtain ⟨i1, i2, h⟩ := itB_rng hr hi
  obtain ⟨rfl, j1, j2, j3⟩ := globB_of i1
  rcases h with ⟨rfl, a, rfl⟩ | ⟨rfl, a, b, rfl⟩ | ⟨rfl, a, b, c, rfl⟩
  · obtain ⟨p1, _⟩ := chkL_head h3
    refine PE.imp (pe_listC (A.calm h0) (glo g1) (A.free _ h2) (prgC1 (glo j1) (A.free _ i2) (he X W A _ h3) (by rw [star_cons p1]; rfl)) rfl) fun σ H Q ⟨F, env, hn, S, o⟩ => ?_
    obtain ⟨F', env', q1, q2, q⟩ := evr hn S o
    refine ⟨F', env', q1, q2, q.imp fun _ vs H1 ⟨F1, us, ys, s, r, e, hz, fin⟩ => ?_⟩
    obtain ⟨j, rfl, hj, rfl⟩ := itF_rng1 e
    obtain ⟨v, rfl, r1⟩ := BReps.one r
    have r1 := r1.int
    subst r1
    have h0 : near 0 = true := rfl
    rw [upU_eq] at fin hz
    exact ⟨j, rfl, _, RgC.one h0 hj, by simpa using hz, fun q hq => fin _ q (fun F => RepAll.of_rg) hq⟩
  · obtain ⟨p1, _, h4⟩ := chkL_head h3
    have hpl := chkL_plain (pos := p') _ (env := X.env) h4
    refine PE.imp (pe_listC (A.calm h0) (glo g1) (A.free _ h2) (prgC2 (glo j1) (A.free _ i2) (he X W A _ h3) (star_cons p1) hpl) rfl) fun σ H Q ⟨F, env, hn, S, o⟩ => ?_
    obtain ⟨F', env', q1, q2, q⟩ := evr hn S o
    refine ⟨F', env', q1, q2, q.imp fun _ vs H1 ⟨F1, us, ys, s, r, e, hz, fin⟩ => ?_⟩
    obtain ⟨i, j, rfl, hi, hj, rfl⟩ := itF_rng2 e
    obtain ⟨v, v', rfl, r1, r2⟩ := BReps.two r
    have r1 := r1.int
    have r2 := r2.int
    subst r1 r2
    rw [upU_eq] at fin hz
    exact ⟨i, j, rfl, _, RgC.one hi hj, by simpa using hz, fun q hq => fin _ q (fun F => RepAll.of_rg) hq⟩
  · obtain ⟨p1, _, h4⟩ := chkL_head h3
    have hpl := chkL_plain (pos := p') _ (env := X.env) h4
    refine PE.imp (pe_listC (A.calm h0) (glo g1) (A.free _ h2) (prgC3 (glo j1) (A.free _ i2) (he X W A _ h3) (star_cons p1) hpl) rfl) fun σ H Q ⟨F, env, hn, S, o⟩ => ?_
    obtain ⟨F', env', q1, q2, q⟩ := evr hn S o
    refine ⟨F', env', q1, q2, q.imp fun _ vs H1 ⟨F1, us, ys, s, r, e, hz, fin⟩ => ?_⟩
    obtain ⟨i, j, rfl, hi, hj, rfl⟩ := itF_rng3 e
    obtain ⟨v, v', v'', rfl, r1, r2, r3⟩ := BReps.three r
    have r1 := r1.int
    have r2 := r2.int
    have r3 := r3.int
    subst r1 r2 r3
    have n1 := near_of hi
    have n2 := near_of hj
    exact ⟨i, j, -1, rfl, by decide, by decide, _, RgC.neg n1.1 n1.2 n2.1 n2.2, by simpa [downU] using hz, fun q hq => fin _ q (fun F => RepAll.of_rg) hq⟩
/-- .. the tuple -/
theorem evr' {kk : ItK} {es : E} {Q : VK} (hn : σ.length = X.N.length) (S : Sim X.K fa X.N.length F H σ env) (o : Out X.K fa XR W X.N.length (fun w => [w]) F H σ env (evE G (.trg kk es) env) (fun _ vs H' => ∃ v, vs = [v] ∧ Q v H')) :
    tEvL G fa XR W X es σ H fun vs H1 => ∃ F1 us ys, Sub F1 H1 ∧ BReps X.K fa F1 H1 vs us ∧ itF kk us = some ys ∧ ys.length ≤ sizeLine ∧ ∀ xs q, (∀ F, RepAll X.K fa F xs ys) → H1 q = none → Q (.ref q) (upd H1 q (.tup xs)) := by
  simp only [evE] at o
  obtain ⟨F0, env0, h0, S0, o0⟩ := evl hn S (.refl _ _ _ _) o
  refine ⟨F0, env0, h0, S0, o0.imp fun _ vs H1 ⟨F1, env1, ws, e1, S1, st1, l1⟩ => ?_⟩
  have hln := S.len
  simp only [e1, Res.bind_ok] at o
  obtain ⟨us, e2, o⟩ := Out.of o
  obtain ⟨ys, e3, o⟩ := Out.of o
  split at o
  · rename_i hz
    refine ⟨F1, us, ys, S1.fr, looks_side S1 (by omega) (by omega) e2, e3, hz, fun xs q hr hq => ?_⟩
    have S2 := S1.head (by omega) (by omega)
    obtain ⟨v', e', r⟩ := Out.post S2 (st1.head (by omega) (by omega)) l1 o (.tup S2.fr hq (hr _))
    cases e'
    exact r
  · exact o.elim
theorem ok_trg {kk : ItK} {es : E} (he : OkL T G fa XR k es) : OkE T G fa XR k (.trg kk es) := fun X W A ex hc => by
  cases ex <;> first | (simp [chkE] at hc; done) | skip
  rename_i f xs ks p
  cases f <;> first | (simp [chkE] at hc; done) | skip
  cases ks <;> rcases xs with _ | ⟨y, _ | ⟨_, _⟩⟩ <;> first | (simp [chkE] at hc; done) | skip
  cases y <;> first | (simp [chkE] at hc; done) | skip
  rename_i f' args ks' p'
  cases f' <;> first | (simp [chkE] at hc; done) | skip
  cases ks' <;> first | (simp [chkE] at hc; done) | skip
  simp only [chkE, Bool.and_eq_true, Bool.not_eq_true'] at hc
  obtain ⟨⟨⟨⟨⟨h0, h1⟩, h2⟩, hr⟩, hi⟩, h3⟩ := hc
  obtain ⟨rfl, g1, g2, g3⟩ := globB_of h1
  obtain ⟨i1, i2, h⟩ := itB_rng hr hi
  obtain ⟨rfl, j1, j2, j3⟩ := globB_of i1
  rcases h with ⟨rfl, a, rfl⟩ | ⟨rfl, a, b, rfl⟩ | ⟨rfl, a, b, c, rfl⟩
  · obtain ⟨p1, _⟩ := chkL_head h3
    refine PE.imp (pe_tupC (A.calm h0) (glo g1) (A.free _ h2) (prgC1 (glo j1) (A.free _ i2) (he X W A _ h3) (by rw [star_cons p1]; rfl)) rfl) fun σ H Q ⟨F, env, hn, S, o⟩ => ?_
    obtain ⟨F', env', q1, q2, q⟩ := evr' hn S o
    refine ⟨F', env', q1, q2, q.imp fun _ vs H1 ⟨F1, us, ys, s, r, e, hz, fin⟩ => ?_⟩
    obtain ⟨j, rfl, hj, rfl⟩ := itF_rng1 e
    obtain ⟨v, rfl, r1⟩ := BReps.one r
    have r1 := r1.int
    subst r1
    have h0 : near 0 = true := rfl
    rw [upU_eq] at fin hz
    exact ⟨j, rfl, _, RgC.one h0 hj, by simpa using hz, fun q hq => fin _ q (fun F => RepAll.of_rg) hq⟩
  · obtain ⟨p1, _, h4⟩ := chkL_head h3
    have hpl := chkL_plain (pos := p') _ (env := X.env) h4
    refine PE.imp (pe_tupC (A.calm h0) (glo g1) (A.free _ h2) (prgC2 (glo j1) (A.free _ i2) (he X W A _ h3) (star_cons p1) hpl) rfl) fun σ H Q ⟨F, env, hn, S, o⟩ => ?_
    obtain ⟨F', env', q1, q2, q⟩ := evr' hn S o
    refine ⟨F', env', q1, q2, q.imp fun _ vs H1 ⟨F1, us, ys, s, r, e, hz, fin⟩ => ?_⟩
    obtain ⟨i, j, rfl, hi, hj, rfl⟩ := itF_rng2 e
    obtain ⟨v, v', rfl, r1, r2⟩ := BReps.two r
    have r1 := r1.int
    have r2 := r2.int
    subst r1 r2
    rw [upU_eq] at fin hz
    exact ⟨i, j, rfl, _, RgC.one hi hj, by simpa using hz, fun q hq => fin _ q (fun F => RepAll.of_rg) hq⟩
  · obtain ⟨p1, _, h4⟩ := chkL_head h3
    have hpl := chkL_plain (pos := p') _ (env := X.env) h4
    refine PE.imp (pe_tupC (A.calm h0) (glo g1) (A.free _ h2) (prgC3 (glo j1) (A.free _ i2) (he X W A _ h3) (star_cons p1) hpl) rfl) fun σ H Q ⟨F, env, hn, S, o⟩ => ?_
    obtain ⟨F', env', q1, q2, q⟩ := evr' hn S o
    refine ⟨F', env', q1, q2, q.imp fun _ vs H1 ⟨F1, us, ys, s, r, e, hz, fin⟩ => ?_⟩
    obtain ⟨i, j, rfl, hi, hj, rfl⟩ := itF_rng3 e
    obtain ⟨v, v', v'', rfl, r1, r2, r3⟩ := BReps.three r
    have r1 := r1.int
    have r2 := r2.int
    have r3 := r3.int
    subst r1 r2 r3
    have n1 := near_of hi
    have n2 := near_of hj
    exact ⟨i, j, -1, rfl, by decide, by decide, _, RgC.neg n1.1 n1.2 n2.1 n2.2, by simpa [downU] using hz, fun q hq => fin _ q (fun F => RepAll.of_rg) hq⟩
end
end PF
end
section
set_option Elab.async false
set_option autoImplicit false
set_option linter.all false
set_option maxRecDepth 100000
namespace PF
open PySem PySem.Spec PyProof.Rows L2

section
variable {K : PySem.W.Frag} {fa : FA} {n : Nat} {F H : Hp} {σ τ : L2.St} {env env' ws : En} {i : Nat} {s : Slot} {v : V}
theorem put_inv (h : put env i s = some env') : ∃ s0, env[i]? = some s0 ∧ (∀ u, s0 ≠ .own u true) ∧ env' = env.set i s := by
  unfold put at h
  split at h
  · cases h
  · rename_i s0 q e
    cases h
    exact ⟨s0, e, fun u z => q u z, rfl⟩
  · cases h
/-- what stands at the end goes into the place i -/
theorem Sim.put (S : Sim K fa n F H (σ ++ [some v]) (env ++ [s])) (hl : σ.length = env.length) (hs : (∃ u, s = .val u) ∨ ∃ u, s = .own u false) (h : PF.put env i s = some env') (nb : ∀ (j : Nat), env[j]? ≠ some (Slot.bor i)) :
    Sim K fa n F H (σ.set i (some v)) env' ∧ Stp F H (σ ++ [some v]) (env ++ [s]) F H (σ.set i (some v)) env' := by
  obtain ⟨s0, e0, np, rfl⟩ := put_inv h
  have hi := ltOf e0
  have last : (env ++ [s])[env.length]? = some s := by simp
  have lastσ : (σ ++ [some v])[env.length]? = some (some v) := by rw [← hl]; simp
  -- an own place behind the store was one ahead of it
  have old : ∀ (j : Nat) (u : U) (p : Bool) (a : Addr), (env.set i s)[j]? = some (.own u p) → (σ.set i (some v))[j]? = some (some (.ref a)) →
      ∃ j', (env ++ [s])[j']? = some (.own u p) ∧ (σ ++ [some v])[j']? = some (some (.ref a)) ∧ ((j = i ∧ j' = env.length) ∨ (j ≠ i ∧ j < env.length ∧ j' = j)) := fun j u p a h1 h2 => by
    by_cases c : i = j
    · subst c
      rw [List.getElem?_set_self hi] at h1
      rw [List.getElem?_set_self (by omega)] at h2
      exact ⟨env.length, by rw [last]; exact h1, by rw [lastσ]; exact h2, .inl ⟨rfl, rfl⟩⟩
    · rw [List.getElem?_set_ne c] at h1 h2
      have hj := ltOf h1
      exact ⟨j, by rw [getL hj]; exact h1, by rw [getL (by omega)]; exact h2, .inr ⟨fun z => c z.symm, hj, rfl⟩⟩
  refine ⟨⟨by simp [hl], S.fr, fun j t e => ?_, fun j k a u u' p p' h1 h2 h3 h4 => ?_, S.tab, S.fnt⟩, ⟨.refl _, fun _ _ q _ _ => q, fun a ⟨j, u, p, h1, h2⟩ => ?_, fun _ _ q => .inl q, fun j u e => ?_⟩⟩
  · by_cases c : i = j
    · subst c
      rw [List.getElem?_set_self hi] at e
      cases e
      have q := S.slot env.length s last
      rcases hs with ⟨u, rfl⟩ | ⟨u, rfl⟩
      · obtain ⟨v', q1, q2⟩ := q
        rw [lastσ] at q1
        exact ⟨v', by rw [List.getElem?_set_self (by omega)]; exact q1, q2⟩
      · obtain ⟨a, o, q1, q2⟩ := q
        rw [lastσ] at q1
        exact ⟨a, o, by rw [List.getElem?_set_self (by omega)]; exact q1, q2⟩
    · rw [List.getElem?_set_ne c] at e
      have hj := ltOf e
      refine (S.slot j t (by rw [getL hj]; exact e)).move (.refl _) (by rw [List.getElem?_set_ne c, getL (by omega)]) (fun k e2 => ?_) (fun _ _ _ _ _ _ a b => ⟨a, b⟩) id
      subst e2
      have ck : i ≠ k := fun z => nb j (by rw [z]; exact e)
      rw [List.getElem?_set_ne ck]
      obtain ⟨⟨h1, h2⟩, _⟩ := S.slot j (.bor k) (by rw [getL hj]; exact e)
      exact (getL (by omega)).symm
  · obtain ⟨j', x1, x2, x3⟩ := old j u p a h1 h3
    obtain ⟨k', y1, y2, y3⟩ := old k u' p' a h2 h4
    have := S.inj j' k' a u u' p p' x1 y1 x2 y2
    omega
  · obtain ⟨j', x1, x2, _⟩ := old j u p a h1 h2
    exact .inl ⟨j', u, p, x1, x2⟩
  · by_cases hj : j < env.length
    · rw [getL hj] at e
      have c : i ≠ j := fun z => by subst z; rw [e0] at e; cases e; exact np u rfl
      exact ⟨by rw [List.getElem?_set_ne c, getL (by omega)], u, by rw [List.getElem?_set_ne c]; exact e⟩
    · rw [getR (by omega)] at e
      obtain ⟨_, e⟩ := one_at e
      subst e
      rcases hs with ⟨u', z⟩ | ⟨u', z⟩ <;> cases z
/-- a value that is there already, with more on the side -/
theorem Sim.putV {u : U} (S : Sim K fa n F H (σ ++ τ) (env ++ ws)) (hl : σ.length = env.length) (r : Rep K fa F v u) (h : PF.put env i (.val u) = some env') (nb : ∀ (j : Nat), (env ++ ws)[j]? ≠ some (Slot.bor i)) :
    Sim K fa n F H (σ.set i (some v) ++ τ) (env' ++ ws) ∧ Stp F H (σ ++ τ) (env ++ ws) F H (σ.set i (some v) ++ τ) (env' ++ ws) := by
  obtain ⟨s0, e0, np, rfl⟩ := put_inv h
  have hi := ltOf e0
  obtain ⟨S1, st1⟩ := (OpPost.val S.fr r).sim S
  have h' : PF.put (env ++ ws) i (.val u) = some ((env ++ ws).set i (.val u)) := by
    unfold PF.put
    rw [getL hi, e0]
    split
    · rename_i z; cases z; exact (np _ rfl).elim
    · rfl
    · rename_i z; cases z
  obtain ⟨S2, st2⟩ := S1.put S.len (.inl ⟨u, rfl⟩) h' nb
  have e1 : (env ++ ws).set i (.val u) = env.set i (.val u) ++ ws := by rw [List.set_append]; simp [hi]
  have e2 : (σ ++ τ).set i (some v) = σ.set i (some v) ++ τ := by rw [List.set_append]; simp [hl, hi]
  rw [e1, e2] at S2 st2
  exact ⟨S2, st1.trans st2⟩
/-- no loan on the side -/
def NoBor (ws : En) : Prop := ∀ s ∈ ws, ∀ j, s ≠ .bor j
theorem nb_of (S : Sim K fa n F H (σ ++ τ) (env ++ ws)) (he : env.length = n) (hw : NoBor ws) (j : Nat) : (env ++ ws)[j]? ≠ some (Slot.bor i) := fun e => by
  by_cases c : j < env.length
  · obtain ⟨⟨_, q⟩, _⟩ := S.slot j (.bor i) e
    omega
  · rw [getR (by omega)] at e
    exact hw _ (List.mem_of_getElem? e) i rfl
end

def tSto (fa : FA) (X : Cx) (tg : E) : TG := fun v σ H Q => ∃ F env τ ws u env', σ.length = X.N.length ∧ env.length = X.N.length ∧ Sim X.K fa X.N.length F H (σ ++ τ) (env ++ ws) ∧ NoBor ws ∧ Rep X.K fa F v u ∧ storeU tg u env = some env' ∧
  ∀ σ', Sim X.K fa X.N.length F H (σ' ++ τ) (env' ++ ws) → Stp F H (σ ++ τ) (env ++ ws) F H (σ' ++ τ) (env' ++ ws) → σ'.length = X.N.length → env'.length = X.N.length → (∀ j, j ∉ tg.tgs → σ'[j]? = σ[j]?) → Q σ' H
def tStos (fa : FA) (X : Cx) (tg : E) : TGs := fun vs σ H Q => ∃ F env τ ws us env', σ.length = X.N.length ∧ env.length = X.N.length ∧ Sim X.K fa X.N.length F H (σ ++ τ) (env ++ ws) ∧ NoBor ws ∧ RepAll X.K fa F vs us ∧ storeU tg (.lst us) env = some env' ∧
  ∀ σ', Sim X.K fa X.N.length F H (σ' ++ τ) (env' ++ ws) → Stp F H (σ ++ τ) (env ++ ws) F H (σ' ++ τ) (env' ++ ws) → σ'.length = X.N.length → env'.length = X.N.length → (∀ j, j ∉ tg.tgs → σ'[j]? = σ[j]?) → Q σ' H
theorem PG.imp {X : Cx} {e : Expr} {t t' : TG} (h : PG X e t) (i : ∀ v σ H Q, t' v σ H Q → t v σ H Q) : PG X e t' := ⟨fun pins s σ H v u Q I r q => h.run pins s σ H v u Q I r (i v σ H Q q)⟩
theorem PGs.imp {X : Cx} {e : List Expr} {t t' : TGs} (h : PGs X e t) (i : ∀ v σ H Q, t' v σ H Q → t v σ H Q) : PGs X e t' := ⟨fun pins s σ H v u Q I r q => h.run pins s σ H v u Q I r (i v σ H Q q)⟩
theorem locB_of {sc : Scope} {x : Str} (h : locB sc x = true) : sc.names.lookup x = some .local ∨ sc.names.lookup x = some .cell := by
  unfold locB at h
  split at h
  · exact .inl (by assumption)
  · exact .inr (by assumption)
  · cases h
theorem ae_cons {x : Expr} {xs : List Expr} {env : Env} (h : plainB x = true) : assignEach (x :: xs) env = (false, assign x env) :: assignEach xs env := by
  cases x <;> first | rfl | cases h
theorem chkGs_cons {N : List Str} {sc : Scope} {es : E} {x : Expr} {xs : List Expr} (h : chkGs N sc es (x :: xs) = true) : ∃ a r, es = .cons a r ∧ chkG N sc a x = true ∧ plainB x = true ∧ chkGs N sc r xs = true := by
  cases es <;> first | (simp [chkGs] at h; done) | skip
  simp only [chkGs, Bool.and_eq_true] at h
  exact ⟨_, _, rfl, h.1.1, h.1.2, h.2⟩
theorem chkGs_nil {N : List Str} {sc : Scope} {es : E} (h : chkGs N sc es [] = true) : es = .nil := by
  cases es <;> first | rfl | (simp [chkGs] at h; done)
theorem chkGs_shape {N : List Str} {sc : Scope} {xs : List Expr} : ∀ {es : E} {env : Env}, chkGs N sc es xs = true → (assignEach xs env).findIdx? (·.1) = none ∧ (assignEach xs env).length = xs.length := by
  induction xs with
  | nil => intro es env h; exact ⟨rfl, rfl⟩
  | cons x xs ih =>
    intro es env h
    obtain ⟨a, r, rfl, h1, h2, h3⟩ := chkGs_cons h
    obtain ⟨q1, q2⟩ := ih (env := env) h3
    rw [ae_cons h2]
    refine ⟨?_, by simp [q2]⟩
    rw [List.findIdx?_cons]
    simp [q1]
theorem chkGs_len {N : List Str} {sc : Scope} {xs : List Expr} : ∀ {es : E} {us : List U} {env env' : En}, chkGs N sc es xs = true → storeU es (.lst us) env = some env' → us.length = xs.length := by
  induction xs with
  | nil =>
    intro es us env env' h h'
    cases chkGs_nil h
    cases us with
    | nil => rfl
    | cons _ _ => simp [storeU] at h'
  | cons x xs ih =>
    intro es us env env' h h'
    obtain ⟨a, r, rfl, h1, h2, h3⟩ := chkGs_cons h
    cases us with
    | nil => simp [storeU] at h'
    | cons u us =>
      simp only [storeU] at h'
      obtain ⟨env1, _, h'⟩ := Option.bind_eq_some_iff.mp h'
      simp [ih h3 h']
mutual
theorem pg_of {fa : FA} {X : Cx} (hc : X.calm = true ∨ L2H.HotC X) (hN : X.N.Nodup) {sc : Scope} (hf : ∀ x, locB sc x = true → Loc X.env.scope x ∧ (X.fn x = true ∨ X.env.scope.names.lookup x = some .local)) : ∀ (tg : E) {ex : Expr}, chkG X.N sc tg ex = true → PG X ex (tSto fa X tg)
  | .tnm i, ex, h => by
    cases ex <;> first | (simp [chkG] at h; done) | skip
    rename_i x p
    simp only [chkG, Bool.and_eq_true, decide_eq_true_eq] at h
    have hl := hf _ h.2
    refine PG.imp (pg_name hN h.1 hl.1 hl.2) fun v σ H Q ⟨F, env, τ, ws, u, env', hn, he, S, hb, r, e, fin⟩ => ?_
    simp only [storeU] at e
    obtain ⟨S1, st1⟩ := S.putV (by omega) r e (nb_of S he hb)
    refine fin _ S1 st1 (by simp [hn]) ?_ fun j hj => ?_
    · obtain ⟨_, _, _, rfl⟩ := put_inv e; simp [he]
    · rw [List.getElem?_set_ne (fun z => hj (by simp [E.tgs, z]))]
  | .ttp es, ex, h => by
    cases ex <;> first | (simp [chkG] at h; done) | skip
    rename_i xs kk p
    simp only [chkG] at h
    obtain ⟨q1, q2⟩ := chkGs_shape (env := X.env) h
    refine PG.imp (hc.elim (fun hc' => pg_tup hc' (pgs_of (fa := fa) hc hN hf es h) q2 q1) fun hc' => pg_tupQ hc' (pgs_of (fa := fa) hc hN hf es h) q2 q1) fun v σ H Q ⟨F, env, τ, ws, u, env', hn, he, S, hb, r, e, fin⟩ => ?_
    cases u <;> first | (simp [storeU] at e; done) | skip
    rename_i us
    simp only [storeU] at e
    cases r with
    | tup r1 r2 => exact ⟨_, _, rfl, SqT.sub S.fr r1, by rw [r2.length, chkGs_len h e], F, env, τ, ws, us, env', hn, he, S, hb, r2, e, fin⟩
  | .nil, ex, h => by cases ex <;> simp [chkG] at h
  | .cons _ _, ex, h => by cases ex <;> simp [chkG] at h
  | .var _, ex, h => by cases ex <;> simp [chkG] at h
  | .bor _, ex, h => by cases ex <;> simp [chkG] at h
  | .mov _, ex, h => by cases ex <;> simp [chkG] at h
  | .con _, ex, h => by cases ex <;> simp [chkG] at h
  | .glc _, ex, h => by cases ex <;> simp [chkG] at h
  | .fnr _, ex, h => by cases ex <;> simp [chkG] at h
  | .tup _, ex, h => by cases ex <;> simp [chkG] at h
  | .lst _, ex, h => by cases ex <;> simp [chkG] at h
  | .dic0, ex, h => by cases ex <;> simp [chkG] at h
  | .bin _ _ _, ex, h => by cases ex <;> simp [chkG] at h
  | .neg _, ex, h => by cases ex <;> simp [chkG] at h
  | .not _, ex, h => by cases ex <;> simp [chkG] at h
  | .cmp _ _ _, ex, h => by cases ex <;> simp [chkG] at h
  | .chn _ _ _ _ _, ex, h => by cases ex <;> simp [chkG] at h
  | .and _ _, ex, h => by cases ex <;> simp [chkG] at h
  | .or _ _, ex, h => by cases ex <;> simp [chkG] at h
  | .ite _ _ _, ex, h => by cases ex <;> simp [chkG] at h
  | .call _ _, ex, h => by cases ex <;> simp [chkG] at h
  | .cvar _ _, ex, h => by cases ex <;> simp [chkG] at h
  | .blt _ _, ex, h => by cases ex <;> simp [chkG] at h
  | .ist _ _, ex, h => by cases ex <;> simp [chkG] at h
  | .idx _ _, ex, h => by cases ex <;> simp [chkG] at h
  | .slc _ _ _, ex, h => by cases ex <;> simp [chkG] at h
  | .lrg _ _, ex, h => by cases ex <;> simp [chkG] at h
  | .trg _ _, ex, h => by cases ex <;> simp [chkG] at h
  | .itr _ _, ex, h => by cases ex <;> simp [chkG] at h
  | .cmp1 _ _ _ _ _, ex, h => by cases ex <;> simp [chkG] at h
  | .lam _ _, ex, h => by cases ex <;> simp [chkG] at h
  | .isx _ _, ex, h => by cases ex <;> simp [chkG] at h
  | .join _ _, ex, h => by cases ex <;> simp [chkG] at h
  | .gcd _ _, ex, h => by cases ex <;> simp [chkG] at h
theorem pgs_of {fa : FA} {X : Cx} (hc : X.calm = true ∨ L2H.HotC X) (hN : X.N.Nodup) {sc : Scope} (hf : ∀ x, locB sc x = true → Loc X.env.scope x ∧ (X.fn x = true ∨ X.env.scope.names.lookup x = some .local)) : ∀ (tg : E) {exs : List Expr}, chkGs X.N sc tg exs = true → PGs X exs (tStos fa X tg)
  | .nil, [], h => by
    refine PGs.imp pgs_nil fun vs σ H Q ⟨F, env, τ, ws, us, env', hn, he, S, hb, r, e, fin⟩ => ?_
    cases r with
    | nil =>
      simp only [storeU, Option.some.injEq] at e
      subst e
      exact ⟨rfl, fin σ S (.refl _ _ _ _) hn he fun _ _ => rfl⟩
    | cons _ _ => simp [storeU] at e
  | .cons a r, x :: xs, h => by
    simp only [chkGs, Bool.and_eq_true] at h
    have h0 : (assignEach (x :: xs) X.env).map (·.2) = assign x X.env :: (assignEach xs X.env).map (·.2) := by rw [ae_cons h.1.2]; rfl
    refine PGs.imp (pgs_cons (pg_of (fa := fa) hc hN hf a h.1.1) (pgs_of (fa := fa) hc hN hf r h.2) h0) fun vs σ H Q ⟨F, env, τ, ws, us, env', hn, he, S, hb, rr, e, fin⟩ => ?_
    cases rr with
    | nil => simp [storeU] at e
    | cons r1 r2 =>
      simp only [storeU] at e
      obtain ⟨env1, e1, e2⟩ := Option.bind_eq_some_iff.mp e
      refine ⟨_, _, rfl, F, env, τ, ws, _, env1, hn, he, S, hb, r1, e1, fun σ1 S1 st1 hn1 he1 k1 => ?_⟩
      refine ⟨F, env1, τ, ws, _, env', hn1, he1, S1, hb, r2, e2, fun σ2 S2 st2 hn2 he2 k2 => ?_⟩
      exact fin σ2 S2 (st1.trans st2) hn2 he2 fun j hj => by
        simp only [E.tgs, List.mem_append, not_or] at hj
        rw [k2 j hj.2, k1 j hj.1]
  | .nil, _ :: _, h => by simp [chkGs] at h
  | .cons _ _, [], h => by simp [chkGs] at h
  | .tnm _, exs, h => by cases exs <;> simp [chkGs] at h
  | .ttp _, exs, h => by cases exs <;> simp [chkGs] at h
  | .var _, exs, h => by cases exs <;> simp [chkGs] at h
  | .bor _, exs, h => by cases exs <;> simp [chkGs] at h
  | .mov _, exs, h => by cases exs <;> simp [chkGs] at h
  | .con _, exs, h => by cases exs <;> simp [chkGs] at h
  | .glc _, exs, h => by cases exs <;> simp [chkGs] at h
  | .fnr _, exs, h => by cases exs <;> simp [chkGs] at h
  | .tup _, exs, h => by cases exs <;> simp [chkGs] at h
  | .lst _, exs, h => by cases exs <;> simp [chkGs] at h
  | .dic0, exs, h => by cases exs <;> simp [chkGs] at h
  | .bin _ _ _, exs, h => by cases exs <;> simp [chkGs] at h
  | .neg _, exs, h => by cases exs <;> simp [chkGs] at h
  | .not _, exs, h => by cases exs <;> simp [chkGs] at h
  | .cmp _ _ _, exs, h => by cases exs <;> simp [chkGs] at h
  | .chn _ _ _ _ _, exs, h => by cases exs <;> simp [chkGs] at h
  | .and _ _, exs, h => by cases exs <;> simp [chkGs] at h
  | .or _ _, exs, h => by cases exs <;> simp [chkGs] at h
  | .ite _ _ _, exs, h => by cases exs <;> simp [chkGs] at h
  | .call _ _, exs, h => by cases exs <;> simp [chkGs] at h
  | .cvar _ _, exs, h => by cases exs <;> simp [chkGs] at h
  | .blt _ _, exs, h => by cases exs <;> simp [chkGs] at h
  | .ist _ _, exs, h => by cases exs <;> simp [chkGs] at h
  | .idx _ _, exs, h => by cases exs <;> simp [chkGs] at h
  | .slc _ _ _, exs, h => by cases exs <;> simp [chkGs] at h
  | .lrg _ _, exs, h => by cases exs <;> simp [chkGs] at h
  | .trg _ _, exs, h => by cases exs <;> simp [chkGs] at h
  | .itr _ _, exs, h => by cases exs <;> simp [chkGs] at h
  | .cmp1 _ _ _ _ _, exs, h => by cases exs <;> simp [chkGs] at h
  | .lam _ _, exs, h => by cases exs <;> simp [chkGs] at h
  | .isx _ _, exs, h => by cases exs <;> simp [chkGs] at h
  | .join _ _, exs, h => by cases exs <;> simp [chkGs] at h
  | .gcd _ _, exs, h => by cases exs <;> simp [chkGs] at h
end
end PF
end
section
set_option Elab.async false
set_option autoImplicit false
set_option linter.all false
set_option maxRecDepth 100000
namespace PF
open PySem PySem.Spec PyProof.Rows L2

theorem wipe_get {σ : L2.St} {vs : List Nat} (j : Nat) : (wipe σ vs)[j]? = if j ∈ vs then (σ[j]?).map (fun _ => none) else σ[j]? := by
  induction vs with
  | nil => simp [wipe]
  | cons v vs ih =>
    unfold wipe
    by_cases c : v = j
    · subst c
      by_cases d : v < (wipe σ vs).length
      · rw [List.getElem?_set_self d]
        rw [wipe_length] at d
        simp [List.getElem?_eq_getElem d]
      · have d' : σ.length ≤ v := by rw [wipe_length] at d; omega
        rw [List.getElem?_eq_none (by rw [List.length_set, wipe_length]; exact d')]
        simp [List.getElem?_eq_none d']
    · rw [List.getElem?_set_ne c, ih]
      have : ¬ j = v := fun z => c z.symm
      simp [this]
theorem wipeE_length {env : En} : ∀ {vs : List Nat}, (wipeE env vs).length = env.length
  | [] => rfl
  | v :: vs => by unfold wipeE; rw [List.length_set, wipeE_length]
theorem wipeE_get {env : En} {vs : List Nat} (j : Nat) : (wipeE env vs)[j]? = if j ∈ vs then (env[j]?).map (fun _ => .emp) else env[j]? := by
  induction vs with
  | nil => simp [wipeE]
  | cons v vs ih =>
    unfold wipeE
    by_cases c : v = j
    · subst c
      by_cases d : v < (wipeE env vs).length
      · rw [List.getElem?_set_self d]
        rw [wipeE_length] at d
        simp [List.getElem?_eq_getElem d]
      · have d' : env.length ≤ v := by rw [wipeE_length] at d; omega
        rw [List.getElem?_eq_none (by rw [List.length_set, wipeE_length]; exact d')]
        simp [List.getElem?_eq_none d']
    · rw [List.getElem?_set_ne c, ih]
      have : ¬ j = v := fun z => c z.symm
      simp [this]
theorem unwipe_length {old env : En} : ∀ {vs : List Nat}, (unwipe old env vs).length = env.length
  | [] => rfl
  | v :: vs => by unfold unwipe; rw [List.length_set, unwipe_length]
theorem unwipe_get {old env : En} (hl : old.length = env.length) {vs : List Nat} (j : Nat) : (unwipe old env vs)[j]? = if j ∈ vs then old[j]? else env[j]? := by
  induction vs with
  | nil => simp [unwipe]
  | cons v vs ih =>
    unfold unwipe
    by_cases c : v = j
    · subst c
      by_cases d : v < (unwipe old env vs).length
      · rw [List.getElem?_set_self d]
        rw [unwipe_length] at d
        simp [List.getD, List.getElem?_eq_getElem (show v < old.length by omega)]
      · have d' : env.length ≤ v := by rw [unwipe_length] at d; omega
        rw [List.getElem?_eq_none (by rw [List.length_set, unwipe_length]; exact d')]
        simp [List.getElem?_eq_none (show old.length ≤ v by omega)]
    · rw [List.getElem?_set_ne c, ih]
      have : ¬ j = v := fun z => c z.symm
      simp [this]
theorem wipe_app {σ τ : L2.St} {vs : List Nat} (h : ∀ v ∈ vs, v < σ.length) : wipe (σ ++ τ) vs = wipe σ vs ++ τ := by
  apply List.ext_getElem?
  intro j
  by_cases c : j < σ.length
  · rw [getL (by rw [wipe_length]; exact c), wipe_get, wipe_get, getL c]
  · rw [getR (by rw [wipe_length]; omega), wipe_get, wipe_length, if_neg (fun z => c (h j z)), getR (by omega)]
theorem wipeE_app {env ws : En} {vs : List Nat} (h : ∀ v ∈ vs, v < env.length) : wipeE (env ++ ws) vs = wipeE env vs ++ ws := by
  apply List.ext_getElem?
  intro j
  by_cases c : j < env.length
  · rw [getL (by rw [wipeE_length]; exact c), wipeE_get, wipeE_get, getL c]
  · rw [getR (by rw [wipeE_length]; omega), wipeE_get, wipeE_length, if_neg (fun z => c (h j z)), getR (by omega)]
section
variable {K : PySem.W.Frag} {fa : FA} {n : Nat} {F F' H H' : Hp} {σ τ σ' : L2.St} {env ws env' : En} {vs : List Nat}
theorem own_wipe {a : Addr} (h : Own (wipe σ vs) (wipeE env vs) a) : Own σ env a := by
  obtain ⟨i, u, p, h1, h2⟩ := h
  rw [wipeE_get] at h1
  rw [wipe_get] at h2
  split at h1
  · cases e : env[i]? <;> rw [e] at h1 <;> cases h1
  · rename_i c
    rw [if_neg c] at h2
    exact ⟨i, u, p, h1, h2⟩
theorem Sim.wipe (S : Sim K fa n F H σ env) (hv : ∀ v ∈ vs, v < n) (nb : ∀ (j k : Nat), k < n → env[j]? ≠ some (.bor k)) : Sim K fa n F H (L2.wipe σ vs) (wipeE env vs) where
  len := by rw [wipe_length, wipeE_length]; exact S.len
  fr := S.fr
  tab := S.tab
  fnt := S.fnt
  slot := fun i s e => by
    rw [wipeE_get] at e
    split at e
    · cases q : env[i]? <;> rw [q] at e <;> cases e
      exact True.intro
    · rename_i c
      refine (S.slot i s e).move (.refl _) (by rw [wipe_get, if_neg c]) (fun k e2 => ?_) (fun _ _ _ _ _ _ a b => ⟨a, b⟩) id
      subst e2
      obtain ⟨⟨q, _⟩, _⟩ := S.slot i _ e
      exact (nb i k q e).elim
  inj := fun i j a u u' p p' h1 h2 h3 h4 => by
    rw [wipeE_get] at h1 h2
    rw [wipe_get] at h3 h4
    split at h1
    · cases e : env[i]? <;> rw [e] at h1 <;> cases h1
    · rename_i c
      split at h2
      · cases e : env[j]? <;> rw [e] at h2 <;> cases h2
      · rename_i d
        rw [if_neg c] at h3
        rw [if_neg d] at h4
        exact S.inj i j a u u' p p' h1 h2 h3 h4
theorem Stp.wipe (st : Stp F H σ env F' H' σ' env') (h : ∀ (v : Nat) (u : U), v ∈ vs → env[v]? ≠ some (.own u true)) : Stp F H σ env F' H' (L2.wipe σ' vs) (wipeE env' vs) :=
  ⟨st.ext, st.keep, fun a q => st.sub a (own_wipe q), st.new, fun i u e => by
    obtain ⟨h1, u', h2⟩ := st.pin i u e
    have c : i ∉ vs := fun z => h i u z e
    exact ⟨by rw [wipe_get, if_neg c]; exact h1, u', by rw [wipeE_get, if_neg c]; exact h2⟩⟩
/-- a comprehension begins -/
theorem Sim.blk (S : Sim K fa n F H σ env) (he : env.length = n) (hv : ∀ v ∈ vs, v < n) (ok : vs.all (okS env) = true) : Sim K fa n F H (L2.wipe σ vs) (wipeE env vs) ∧ Stp F H σ env F H (L2.wipe σ vs) (wipeE env vs) := by
  have hk : ∀ (v : Nat), v ∈ vs → env[v]? = some .emp ∨ ∃ u, env[v]? = some (.val u) := fun v hvv => by
    have := List.all_eq_true.mp ok v hvv
    unfold okS at this
    split at this
    · exact .inl (by assumption)
    · exact .inr ⟨_, by assumption⟩
    · cases this
  refine ⟨S.wipe hv fun j k hk e => ?_, (Stp.refl _ _ _ _).wipe fun v u hvv e => ?_⟩
  · obtain ⟨⟨_, q⟩, _⟩ := S.slot j _ e
    have := ltOf e
    omega
  · rcases hk v hvv with q | ⟨_, q⟩ <;> rw [q] at e <;> cases e
/-- .. and ends -/
theorem unwipe_ok {F1 H1 F2 H2 : Hp} (S : Sim K fa n F1 H1 σ env) (he : env.length = n) (hσ : σ.length = n) (hv : ∀ v ∈ vs, v < n) (ok : vs.all (okS env) = true) (S2 : Sim K fa n F2 H2 (L2.wipe σ vs ++ τ) (env' ++ ws)) (he' : env'.length = n) (hw : NoBor ws)
    (st : Stp F1 H1 (L2.wipe σ vs) (wipeE env vs) F2 H2 (L2.wipe σ vs ++ τ) (env' ++ ws)) : Sim K fa n F2 H2 (σ ++ τ) (unwipe env env' vs ++ ws) ∧ Stp F1 H1 σ env F2 H2 (σ ++ τ) (unwipe env env' vs ++ ws) := by
  have hk : ∀ (v : Nat), v ∈ vs → env[v]? = some .emp ∨ ∃ u, env[v]? = some (.val u) := fun v hvv => by
    have := List.all_eq_true.mp ok v hvv
    unfold okS at this
    split at this
    · exact .inl (by assumption)
    · exact .inr ⟨_, by assumption⟩
    · cases this
  have hlE : (unwipe env env' vs).length = n := by rw [unwipe_length]; exact he'
  have hlW : (L2.wipe σ vs).length = n := by rw [wipe_length]; exact hσ
  have ug : ∀ j, (unwipe env env' vs)[j]? = if j ∈ vs then env[j]? else env'[j]? := fun j => unwipe_get (by omega) j
  -- an own place is one of the block's
  have old : ∀ (j : Nat) (u : U) (p : Bool) (a : Addr), (unwipe env env' vs ++ ws)[j]? = some (.own u p) → (σ ++ τ)[j]? = some (some (.ref a)) → (env' ++ ws)[j]? = some (.own u p) ∧ (L2.wipe σ vs ++ τ)[j]? = some (some (.ref a)) := fun j u p a h1 h2 => by
    by_cases c : j < n
    · rw [getL (by omega), ug] at h1
      rw [getL (by omega)] at h2
      rw [getL (by omega), getL (by omega), wipe_get]
      split at h1
      · rename_i d
        rcases hk j d with q | ⟨_, q⟩ <;> rw [q] at h1 <;> cases h1
      · rename_i d
        rw [if_neg d]
        exact ⟨h1, h2⟩
    · rw [getR (by omega), hlE] at h1
      rw [getR (by omega), hσ] at h2
      rw [getR (by omega), getR (by omega), he', hlW]
      exact ⟨h1, h2⟩
  refine ⟨⟨by have := S2.len; simp only [List.length_append, wipe_length] at this ⊢; rw [unwipe_length]; exact this, S2.fr, fun i s e => ?_, fun i j a u u' p p' h1 h2 h3 h4 => ?_, S2.tab, S2.fnt⟩, ⟨st.ext, fun a o h no => st.keep a o h fun z => no (own_wipe z), fun a ⟨j, u, p, h1, h2⟩ => ?_, fun a o h => ?_, fun i u e => ?_⟩⟩
  · by_cases c : i < n
    · rw [getL (by omega), ug] at e
      split at e
      · rename_i d
        refine (S.slot i s e).move st.ext (getL (by omega)) (fun k e2 => ?_) (fun u p a o e2 h1 h2 h3 => ?_) id
        · subst e2; rcases hk i d with q | ⟨_, q⟩ <;> rw [q] at e <;> cases e
        · subst e2; rcases hk i d with q | ⟨_, q⟩ <;> rw [q] at e <;> cases e
      · rename_i d
        refine (S2.slot i s (by rw [getL (by omega)]; exact e)).move (.refl _) (by rw [getL (by omega), getL (by omega), wipe_get, if_neg d]) (fun k e2 => ?_) (fun _ _ _ _ _ _ a b => ⟨a, b⟩) id
        subst e2
        obtain ⟨⟨_, q⟩, _⟩ := S2.slot i (.bor k) (by rw [getL (by omega)]; exact e)
        omega
    · rw [getR (by omega), hlE] at e
      refine (S2.slot i s (by rw [getR (by omega), he']; exact e)).move (.refl _) (by rw [getR (by omega), getR (by omega), hlW, hσ]) (fun k e2 => ?_) (fun _ _ _ _ _ _ a b => ⟨a, b⟩) id
      subst e2
      exact (hw _ (List.mem_of_getElem? e) k rfl).elim
  · obtain ⟨x1, x2⟩ := old i u p a h1 h3
    obtain ⟨y1, y2⟩ := old j u' p' a h2 h4
    exact S2.inj i j a u u' p p' x1 y1 x2 y2
  · obtain ⟨x1, x2⟩ := old j u p a h1 h2
    exact (st.sub a ⟨j, u, p, x1, x2⟩).imp own_wipe id
  · exact (st.new a o h).imp id fun z => z.imp own_wipe id
  · have c : i ∉ vs := fun z => by rcases hk i z with q | ⟨_, q⟩ <;> rw [q] at e <;> cases e
    have hi := ltOf e
    obtain ⟨h1, u', h2⟩ := st.pin i u (by rw [wipeE_get, if_neg c]; exact e)
    rw [getL (by omega), wipe_get, if_neg c] at h1
    rw [getL (by omega)] at h2
    exact ⟨getL (by omega), u', by rw [getL (by omega), ug, if_neg c]; exact h2⟩
theorem _root_.LamX.Tabs.own {T : List (Addr × Str)} {u : U} {a : Addr} {o ob : HO} (t : LamX.Tabs T H) (h : H a = some ob) (r : Hold K fa F ob u) : LamX.Tabs T (upd H a o) := fun p hp => by
  obtain ⟨ps, h1, h2, h3⟩ := t p hp
  refine ⟨ps, by rw [upd_ne (fun z => by rw [z, h] at h1; exact r.nt ps (Option.some.inj h1))]; exact h1, h2, fun pos cv hc => ?_⟩
  obtain ⟨c, e1, e2⟩ := h3 pos cv hc
  refine ⟨c, e1, ?_⟩
  rw [upd_ne (fun z => by
    rw [z, h] at e2
    have e3 := Option.some.inj e2
    unfold LamX.CodeO at e3
    subst e3
    cases r)]
  exact e2
/-- the container at an own place, changed -/
theorem Sim.mut {i : Nat} {u u' : U} {p : Bool} {a : Addr} {o : HO} (S : Sim K fa n F H σ env) (h : env[i]? = some (.own u p)) (h2 : σ[i]? = some (some (.ref a))) (r : Hold K fa F o u') :
    Sim K fa n F (upd H a o) σ (env.set i (.own u' p)) ∧ Stp F H σ env F (upd H a o) σ (env.set i (.own u' p)) := by
  obtain ⟨b, ob, q1, q2, q3, q4⟩ := S.slot i _ h
  rw [h2] at q1
  cases q1
  have hi := ltOf h
  have old : ∀ (j : Nat) (w : U) (q : Bool) (b : Addr), (env.set i (.own u' p))[j]? = some (.own w q) → σ[j]? = some (some (.ref b)) → ∃ w', env[j]? = some (.own w' q) ∧ (b = a → j = i) := fun j w q b e1 e2 => by
    by_cases c : i = j
    · subst c
      rw [List.getElem?_set_self hi] at e1
      cases e1
      exact ⟨u, h, fun _ => rfl⟩
    · rw [List.getElem?_set_ne c] at e1
      exact ⟨w, e1, fun z => by subst z; exact S.inj j i b _ _ _ _ e1 h e2 h2⟩
  refine ⟨⟨by rw [List.length_set]; exact S.len, fun b ob e => ?_, fun j s e => ?_, fun j k b w w' q q' e1 e2 e3 e4 => ?_, S.tab.own q2 q3, S.fnt⟩, ⟨.refl _, fun b ob e no _ => ?_, fun b ⟨j, w, q, e1, e2⟩ => ?_, fun _ _ e => .inl e, fun j w e => ⟨rfl, ?_⟩⟩⟩
  · rw [upd_ne (fun z => by subst z; rw [q4] at e; cases e)]
    exact S.fr b ob e
  · by_cases c : i = j
    · subst c
      rw [List.getElem?_set_self hi] at e
      cases e
      exact ⟨a, o, h2, upd_same, r, q4⟩
    · rw [List.getElem?_set_ne c] at e
      refine (S.slot j s e).move (.refl _) rfl (fun _ _ => rfl) (fun w q b ob e2 e3 e4 e5 => ⟨?_, e5⟩) id
      subst e2
      rw [upd_ne (fun z => c (by subst z; exact S.inj i j b _ _ _ _ h e h2 e3))]
      exact e4
  · obtain ⟨_, x1, _⟩ := old j w q b e1 e3
    obtain ⟨_, y1, _⟩ := old k w' q' b e2 e4
    exact S.inj j k b _ _ _ _ x1 y1 e3 e4
  · rw [upd_ne (fun z => no ⟨i, u, p, h, by rw [z]; exact h2⟩)]
    exact e
  · obtain ⟨_, x1, _⟩ := old j w q b e1 e2
    exact .inl ⟨j, _, q, x1, e2⟩
  · by_cases c : i = j
    · subst c
      rw [h] at e
      cases e
      exact ⟨u', List.getElem?_set_self hi⟩
    · exact ⟨w, by rw [List.getElem?_set_ne c]; exact e⟩
end
end PF
end
section
set_option Elab.async false
set_option autoImplicit false
set_option linter.all false
set_option maxRecDepth 100000
namespace PF
open PySem PySem.Spec PyProof.Rows L2

def W0 : WX := fun _ _ _ _ => False
section
variable {T : Tbl} {G : Gx} {fa : FA} {XR : XRt} {k : Nat} {W : WX} {X : Cx} {σ : L2.St} {H : Hp} {F : Hp} {env : En}
def tCnd (G : Gx) (fa : FA) (XR : XRt) (X : Cx) (c : E) : TT := match c with
  | .nil => tYes
  | c => tEvT G fa XR W0 X c
theorem evT_cond {c : E} {env env1 : En} {b : Bool} (h : c ≠ .nil) (e : condF c (evE G c) env = .ok (b, env1)) : evT G c env = .ok (b, env1) := by
  unfold condF at e
  split at e
  · exact (h rfl).elim
  · exact e
theorem tCnd_of {c : E} {env1 : En} {b : Bool} {Q : Bool → Hp → Prop} (hn : σ.length = X.N.length) (hl : env.length = X.N.length) (S : Sim X.K fa X.N.length F H σ env) (e : condF c (evE G c) env = .ok (b, env1))
    (q : ∀ F1 H1, Sim X.K fa X.N.length F1 H1 σ env1 → Stp F H σ env F1 H1 σ env1 → env1.length = X.N.length → Q b H1) : tCnd G fa XR X c σ H Q := by
  unfold tCnd
  split
  · simp only [condF] at e
    cases e
    exact q F H S (.refl _ _ _ _) hl
  · rename_i hc
    refine ⟨F, env, hn, S, ?_⟩
    rw [evT_cond (fun z => hc z) e]
    intro vs F1 H1 S1 st1 l1
    cases bare S1 (by omega)
    simp only [List.map_nil, List.append_nil] at S1 st1
    exact q F1 H1 S1 st1 l1
theorem Res.of_inv {α : Type} {o : Option α} {a : α} (h : Res.of o = .ok a) : o = some a := by
  cases o with
  | none => cases h
  | some b => cases h; rfl
theorem noExc_inv {α : Type} {r : Res α} {a : α} (h : noExc r = .ok a) : r = .ok a := by
  cases r <;> first | exact h | cases h
theorem nb_one {u : U} {p : Bool} : NoBor [Slot.own u p] := fun s hs j z => by
  simp at hs; subst hs; cases z
theorem cmp_read {vs : List Nat} {tg it c elt : E} {Q : VK} (hv : ∀ v ∈ vs, v < X.N.length) (ht : ∀ v ∈ tg.tgs, v ∈ vs) (q0 : tEv G fa XR W X (.cmp1 vs tg it c elt) σ H Q) :
    tLc (tEvI G fa XR W X it) (tSto fa X tg) (tCnd G fa XR X c) (tEv G fa XR W0 X elt) vs σ H Q := by
  obtain ⟨F, env, hn, S, o⟩ := q0
  simp only [evE] at o
  refine ⟨F, env, hn, S, ?_⟩
  cases ei : evI G it env with
  | bad => rw [ei] at o; exact o.elim
  | exc x e => rw [ei] at o; exact o
  | ok z =>
    obtain ⟨xs, env1⟩ := z
    rw [ei] at o
    simp only [Res.bind_ok] at o
    intro J F1 H1 S1 st1 l1 hJ
    split at o
    · rename_i ok
      cases er : noExc (compGo (turnC vs tg c (evE G c) (evE G elt)) xs (wipeE env1 vs)) with
      | bad => rw [er] at o; exact o.elim
      | exc x e =>
        exfalso
        cases hx : compGo (turnC vs tg c (evE G c) (evE G elt)) xs (wipeE env1 vs) <;> rw [hx] at er <;> cases er
      | ok z =>
        obtain ⟨us, eF⟩ := z
        rw [er] at o
        have er := noExc_inv er
        simp only [Res.bind_ok] at o
        split at o
        · rename_i hz
          intro D hD
          obtain ⟨S0, st0⟩ := S1.blk l1 hv ok
          have hlW : (wipe σ vs).length = X.N.length := by rw [wipe_length]; exact hn
          have hlE : (wipeE env1 vs).length = X.N.length := by rw [wipeE_length]; exact l1
          obtain ⟨Sd, std⟩ := (OpPost.own S1.fr hD (.lst (K := X.K) (fa := fa) .nil)).sim S0
          have npin : ∀ (v : Nat) (u : U), v ∈ vs → (wipeE env1 vs)[v]? ≠ some (.own u true) := fun v u hvv e => by
            rw [wipeE_get, if_pos hvv] at e
            cases q : env1[v]? <;> rw [q] at e <;> cases e
          refine ⟨fun i m H => m = xs.length - i ∧ i ≤ xs.length ∧ ∃ F2 e acc us', Sim X.K fa X.N.length F2 H (wipe σ vs ++ [some (.ref D)]) (e ++ [.own (.lst acc) false]) ∧
            Stp F1 H1 (wipe σ vs) (wipeE env1 vs) F2 H (wipe σ vs ++ [some (.ref D)]) (e ++ [.own (.lst acc) false]) ∧ e.length = X.N.length ∧ compGo (turnC vs tg c (evE G c) (evE G elt)) (xs.drop i) e = .ok (us', eF) ∧ acc ++ us' = us,
            ⟨xs.length, by simp, Nat.zero_le _, F1, wipeE env1 vs, [], us, Sd, std, hlE, er, rfl⟩, ?_⟩
          rintro i m H ⟨rfl, hi, F2, e, acc, us', S2, st2, l2, run, eu⟩
          have hs := hJ i F2 H st2.ext S2.fr
          by_cases hlt : i < xs.length
          · obtain ⟨go, yl⟩ := hs.1 xs[i] (List.getElem?_eq_getElem hlt)
            refine .inr ⟨go, fun H => i + 1 ≤ xs.length ∧ ∃ F2 e acc us', Sim X.K fa X.N.length F2 H (wipe σ vs ++ [some (.ref D)]) (e ++ [.own (.lst acc) false]) ∧
              Stp F1 H1 (wipe σ vs) (wipeE env1 vs) F2 H (wipe σ vs ++ [some (.ref D)]) (e ++ [.own (.lst acc) false]) ∧ e.length = X.N.length ∧ compGo (turnC vs tg c (evE G c) (evE G elt)) (xs.drop (i + 1)) e = .ok (us', eF) ∧ acc ++ us' = us,
              fun H' p => ⟨xs.length - (i + 1), by omega, rfl, p⟩, fun xv H' y => ?_⟩
            obtain ⟨F3, P⟩ := yl xv H' y
            rw [List.drop_eq_getElem_cons hlt] at run
            simp only [compGo] at run
            obtain ⟨⟨o1, e1⟩, t1, run⟩ := Res.inv run
            obtain ⟨⟨us2, e2⟩, t2, run⟩ := Res.inv run
            unfold turnC at t1
            obtain ⟨ea, k1, t1⟩ := Res.inv t1
            obtain ⟨⟨b, eb⟩, k2, t1⟩ := Res.inv t1
            have k1 := Res.of_inv k1
            obtain ⟨S3, st3⟩ := P.sim S2
            have S3' := S3.head S2.len (by simp; omega)
            have st3' := st3.head S2.len (Nat.le_refl _)
            refine ⟨F3, e, [some (.ref D)], [.own (.lst acc) false], xs[i], ea, hlW, l2, S3', nb_one, P.rep, k1, fun σ4 S4 st4 hn4 he4 kp4 => ⟨?_, ?_⟩⟩
            · apply List.ext_getElem?
              intro j
              rw [wipe_get, wipe_get]
              split
              · rename_i hj
                have := hv j hj
                rw [List.getElem?_eq_getElem (by omega), List.getElem?_eq_getElem (by omega)]
                rfl
              · rename_i hj
                rw [kp4 j (fun z => hj (ht j z)), wipe_get, if_neg hj]
            · have wσ : wipe σ4 vs = wipe σ vs := by
                apply List.ext_getElem?
                intro j
                rw [wipe_get, wipe_get]
                split
                · rename_i hj
                  have := hv j hj
                  rw [List.getElem?_eq_getElem (by omega), List.getElem?_eq_getElem (by omega)]
                  rfl
                · rename_i hj
                  rw [kp4 j (fun z => hj (ht j z)), wipe_get, if_neg hj]
              have st04 : Stp F1 H1 (wipe σ vs) (wipeE env1 vs) F3 H' (σ4 ++ [some (.ref D)]) (ea ++ [.own (.lst acc) false]) := (st2.trans st3').trans st4
              -- what a turn leaves, its names forgotten
              have fin : ∀ {F5 H5 : Hp} {en : En} {ac : List U}, en.length = X.N.length → Sim X.K fa X.N.length F5 H5 (σ4 ++ [some (.ref D)]) (en ++ [.own (.lst ac) false]) → Stp F1 H1 (wipe σ vs) (wipeE env1 vs) F5 H5 (σ4 ++ [some (.ref D)]) (en ++ [.own (.lst ac) false]) →
                  Sim X.K fa X.N.length F5 H5 (wipe σ vs ++ [some (.ref D)]) (wipeE en vs ++ [.own (.lst ac) false]) ∧ Stp F1 H1 (wipe σ vs) (wipeE env1 vs) F5 H5 (wipe σ vs ++ [some (.ref D)]) (wipeE en vs ++ [.own (.lst ac) false]) := fun {F5 H5 en ac} hen S5 st5 => by
                have A1 := S5.wipe hv (fun j kk hk z => by
                  by_cases c : j < en.length
                  · obtain ⟨⟨_, q⟩, _⟩ := S5.slot j _ z
                    omega
                  · rw [getR (by omega)] at z
                    have := (one_at z).2
                    cases this)
                have A2 := st5.wipe (vs := vs) npin
                rw [wipe_app (fun v hvv => by have := hv v hvv; omega), wipeE_app (fun v hvv => by have := hv v hvv; omega), wσ] at A1 A2
                exact ⟨A1, A2⟩
              refine tCnd_of hn4 he4 (S4.head (by omega) (by omega)) k2 fun F5 H5 S5 st5 l5 => ?_
              obtain ⟨S6, st6⟩ := frame (τ := [some (.ref D)]) (ws := [.own (.lst acc) false]) (τ2 := []) (ws2 := []) S4 hn4 he4 l5 (by simpa using S5) (by simpa using st5)
              simp only [List.append_nil] at S6 st6
              cases b with
              | false =>
                simp only [Bool.false_eq_true, if_false] at t1 ⊢
                cases t1
                cases run
                obtain ⟨A1, A2⟩ := fin l5 S6 (st04.trans st6)
                exact ⟨hlt, F5, wipeE eb vs, acc, us2, A1, A2, by rw [wipeE_length]; exact l5, t2, eu⟩
              | true =>
                simp only [if_true] at t1 ⊢
                obtain ⟨⟨w, ec⟩, k3, t1⟩ := Res.inv t1
                obtain ⟨u, k4, t1⟩ := Res.inv t1
                have k4 := Res.of_inv k4
                cases t1
                cases run
                refine ⟨F5, eb, hn4, S5, ?_⟩
                rw [k3]
                intro ys F6 H6 S7 st7 l7
                have hy : ys.length = 1 := len_side S7 (by omega)
                obtain ⟨v, rfl⟩ := List.length_eq_one_iff.mp hy
                refine ⟨v, rfl, ?_⟩
                obtain ⟨S8, st8⟩ := frame (τ := [some (.ref D)]) (ws := [.own (.lst acc) false]) S6 hn4 l5 l7 S7 st7
                simp only [List.map_cons, List.map_nil, List.singleton_append] at S8 st8
                obtain ⟨F9, S9, st9⟩ := frz_one (i := ec.length + 1) S8 (by rw [getR (by omega)]; simp) k4
                have es : (ec ++ [.own (.lst acc) false, w]).set (ec.length + 1) (.val u) = ec ++ [.own (.lst acc) false, .val u] := by rw [List.set_append, if_neg (by omega)]; simp
                rw [es] at S9 st9
                have atD : (σ4 ++ [some (V.ref D), some v])[ec.length]? = some (some (.ref D)) := by rw [l7, ← hn4, getR (Nat.le_refl _)]; simp
                have atv : (σ4 ++ [some (V.ref D), some v])[ec.length + 1]? = some (some v) := by rw [l7, ← hn4, getR (by omega)]; simp
                obtain ⟨a, ob, q1, q2, q3, q4⟩ := S9.slot ec.length (.own (.lst acc) false) (by rw [getR (Nat.le_refl _)]; simp)
                rw [atD] at q1
                cases q1
                cases q3 with
                | lst r3 =>
                  rename_i accV
                  obtain ⟨v', q5, q6⟩ := S9.slot (ec.length + 1) (.val u) (by rw [getR (by omega)]; simp)
                  rw [atv] at q5
                  cases q5
                  have hlen : acc.length < sizeLine := by
                    have : us.length = acc.length + (us2.length + 1) := by rw [← eu]; simp
                    omega
                  refine ⟨accV, q2, by have := r3.length; omega, ?_⟩
                  obtain ⟨S10, st10⟩ := S9.mut (u := .lst acc) (p := false) (u' := .lst (acc ++ [u])) (o := .lst (accV ++ [v])) (i := ec.length) (by rw [getR (Nat.le_refl _)]; simp) atD (.lst (r3.app (.cons q6 .nil)))
                  have es : (ec ++ [Slot.own (.lst acc) false, .val u]).set ec.length (.own (.lst (acc ++ [u])) false) = (ec ++ [.own (.lst (acc ++ [u])) false]) ++ [.val u] := by rw [List.set_append]; simp
                  have es2 : σ4 ++ [some (V.ref D), some v] = (σ4 ++ [some (V.ref D)]) ++ [some v] := by simp
                  rw [es] at S10 st10
                  have B1 := st8.trans (st9.trans st10)
                  rw [es2] at S10 B1
                  have hz1 : (σ4 ++ [some (V.ref D)]).length = (ec ++ [Slot.own (.lst (acc ++ [u])) false]).length := by simp; omega
                  have S11 := S10.head hz1 (by simp; omega)
                  have B2 := B1.head hz1 (by simp; omega)
                  obtain ⟨A1, A2⟩ := fin l7 S11 (st04.trans (st6.trans B2))
                  exact ⟨hlt, F9, wipeE ec vs, acc ++ [u], us2, A1, A2, by rw [wipeE_length]; exact l7, t2, by rw [← eu]; simp⟩
          · have hi' : i = xs.length := by omega
            subst hi'
            rw [List.drop_length] at run
            simp only [compGo] at run
            cases run
            rw [List.append_nil] at eu
            subst eu
            refine .inl ⟨hs.2 (Nat.le_refl _), ?_⟩
            obtain ⟨S3, st3⟩ := unwipe_ok S1 l1 hn hv ok S2 l2 nb_one st2
            obtain ⟨v, e', q⟩ := o [.ref D] F2 H S3 (st1.trans st3) (by rw [unwipe_length]; exact l2)
            cases e'
            exact q
        · exact o.elim
    · exact o.elim
theorem relS_lookup {scope sc : Scope} {x : Str} {kd : NameKind} (h : scope.names.lookup x = some kd) (hk : (kd == .free) = false) : (relS scope sc).names.lookup x = some kd := by
  unfold relS
  show (scope.names.map _).lookup x = some kd
  revert h
  generalize scope.names = l
  intro h
  induction l with
  | nil => cases h
  | cons y r ih =>
    obtain ⟨m, k0⟩ := y
    simp only [List.map_cons]
    by_cases c : x == m
    · have c' : x = m := by simpa using c
      subst c'
      rw [List.lookup_cons_self] at h
      cases h
      rw [show (kd == NameKind.free && sc.kind == ScopeKind.function && List.lookup x sc.names == some NameKind.cell) = false by rw [hk]; rfl]
      simp
    · rw [List.lookup_cons, show (x == m) = false by simpa using c] at h
      have := ih h
      split
      · rw [List.lookup_cons, show (x == m) = false by simpa using c]; exact this
      · rw [List.lookup_cons, show (x == m) = false by simpa using c]; exact this
/-- a block's context, with what is pinned -/
abbrev blkP (X : Cx) (pn : List (Addr × Obj)) (s : Shared) (H : Hp) (scope : Scope) (C : Addr) (cl : List (Str × Addr)) (fp : List Addr) : Cx := { X.blk s H scope (compEnvC scope cl C X.env) fp with pn := pn }
theorem HotOk.hot {Y : Cx} {a C : Addr} {oe : Obj} {pn : List (Addr × Obj)} {D : Nat} (h : HotOk G fa X Y a C oe pn D) : L2H.HotC X := by
  obtain ⟨e, z, ⟨vs, fd⟩, _⟩ := h
  subst e
  exact ⟨(a, oe), ⟨rfl, vs, fd, z.2.2 vs fd⟩, List.mem_cons_self⟩
theorem Amb.qt (A : Amb T G fa XR k W X) : X.calm = true ∨ L2H.HotC X := by
  cases h : T.hot with
  | false => exact .inl (A.calm h)
  | true =>
    obtain ⟨Y, a, C, oe, pn, D, q⟩ := A.hotx h
    exact .inr q.hot
theorem Amb.blk (A : Amb T G fa XR k W X) {pn : List (Addr × Obj)} {s : Shared} {H : Hp} {scope : Scope} {C : Addr} {cl : List (Str × Addr)} {fp : List Addr} (hp : T.hot = true → pn = X.pn) (hl : ¬ T.lsc = some (relS scope X.env.scope).names) : Amb T G fa XR k W0 (blkP X pn s H scope C cl fp) where
  calm := A.calm
  nd := A.nd
  room := A.room
  un := A.un
  takes := fun u s' ⟨_, _, _, _, _, _, _, _, _, _, _, _, _, _, _, _, w⟩ => w.elim
  exc := A.exc
  xr := A.xr
  xrr := A.xrr
  gcd := A.gcd
  sub := A.sub
  hotx := fun h => by
    obtain ⟨Y, a, C', oe, pn', D, q⟩ := A.hotx h
    have e := q.eq
    have e2 := hp h
    subst e
    subst e2
    exact ⟨{ Y with s_0 := s, H_0 := H, env := compEnvC scope cl C Y.env, outer := Y.stack, ex := fp, fn := fun x => scope.names.lookup x == some .cell }, a, C', oe, pn', D, ⟨rfl, q.z, q.fld, q.f, q.hx, q.cls, q.exc⟩⟩
  lamt := fun ns h1 h2 => absurd (by rw [h1, ← h2]; rfl) hl
  tel := A.tel
  free := A.free
  cst := A.cst
  fns := A.fns
  md := A.md
  ok := A.ok
theorem fold_plain {x : Expr} {env : Env} (h : plainB x = true) : ∀ v, foldedSetIterable x env v = pure v := by
  cases x <;> first | (intro v; rfl) | cases h
theorem own_map {N : List Str} {vs : List Nat} : (ownOf N vs).map (·.2) = vs := by
  unfold ownOf
  rw [List.map_map]
  exact List.map_id _
/-- what a comprehension's parts are -/
structure CompOk (T : Tbl) (G : Gx) (fa : FA) (XR : XRt) (X : Cx) (vs : List Nat) (tg it c elt : E) (scope : Scope) (elt' tg' it' : Expr) (ifs : List Expr) (W : WX) (pn : List (Addr × Obj)) : Prop where
  blk : BlkOk X.N X.env.scope scope (ownOf X.N vs)
  lt : ∀ v ∈ vs, v < X.N.length
  ts : ∀ v ∈ tg.tgs, v ∈ vs
  itp : T.hot = true → L2H.PIH X tg' it' (tEvI G fa XR W X it)
  it : PI X tg' it' (tEvI G fa XR W X it)
  g : ∀ (s : Shared) (H : Hp) (C : Addr) (cl : List (Str × Addr)) (fp : List Addr), PG (blkP X pn s H scope C cl fp) tg' (tSto fa X tg)
  t : ∀ (s : Shared) (H : Hp) (C : Addr) (cl : List (Str × Addr)) (fp : List Addr), PTs (blkP X pn s H scope C cl fp) ifs (tCnd G fa XR X c)
  e : ∀ (s : Shared) (H : Hp) (C : Addr) (cl : List (Str × Addr)) (fp : List Addr), PE (blkP X pn s H scope C cl fp) elt' (tEv G fa XR W0 X elt)
  s : ∀ x, foldedSetIterable it' X.env x = pure x
theorem chk_cmp {N : List Str} {sc scope : Scope} {vs : List Nat} {tg it c elt : E} {elt' tg' it' : Expr} {ifs : List Expr} {as : Int} {p : Pos} (h : chkE T N (.cmp1 vs tg it c elt) sc (.ListComp elt' [⟨tg', it', ifs, as⟩] scope p) = true) :
    (decide (as = 0) && compB N vs tg sc scope tg' it' && chkI T N it sc tg' it' && chkE T N elt (relS scope sc) elt' && cndB c ifs (chkE T N c (relS scope sc)) && !decide (T.lsc = some (relS scope sc).names)) = true := h
theorem comp_ok {vs : List Nat} {tg it c elt : E} {elt' : Expr} {gs : List Comprehension} {scope : Scope} {p : Pos} {pn : List (Addr × Obj)} (A : Amb T G fa XR k W X) (hp : T.hot = true → pn = X.pn) (hi : OkI T G fa XR k it) (hc : OkT T G fa XR k c) (he : OkE T G fa XR k elt)
    (h : chkE T X.N (.cmp1 vs tg it c elt) X.env.scope (.ListComp elt' gs scope p) = true) : ∃ tg' it' ifs, gs = [⟨tg', it', ifs, 0⟩] ∧ CompOk T G fa XR X vs tg it c elt scope elt' tg' it' ifs W pn := by
  rcases gs with _ | ⟨⟨tg', it', ifs, as⟩, _ | ⟨_, _⟩⟩ <;> first | (simp [chkE] at h; done) | skip
  have h := chk_cmp h
  simp only [compB, Bool.and_eq_true, List.all_eq_true, decide_eq_true_eq, Bool.not_eq_true', decide_eq_false_iff_not] at h
  obtain ⟨⟨⟨⟨⟨h0, ⟨⟨h1, h2⟩, h3⟩, h4⟩, h5⟩, h6⟩, h7⟩, h8⟩ := h
  subst h0
  refine ⟨tg', it', ifs, rfl, ?_⟩
  have hb := blkOk_by h2
  have AB : ∀ {s : Shared} {H : Hp} {C : Addr} {cl : List (Str × Addr)} {fp : List Addr}, Amb T G fa XR k W0 (blkP X pn s H scope C cl fp) := fun {s H C cl fp} => A.blk hp h8
  refine ⟨hb, fun v hv => ?_, fun v hv => by simpa using h4 v hv, (hi X W A tg' it' h5).2, (hi X W A tg' it' h5).1, fun s H C cl fp => ?_, fun s H C cl fp => ?_, fun s H C cl fp => ?_, fold_plain h1⟩
  · have := hb.ix ((X.N[v]?).getD ⟨#[]⟩, v) (by unfold ownOf; exact List.mem_map.mpr ⟨v, hv, rfl⟩)
    exact ltOf this
  · refine pg_of (fa := fa) (X := blkP X pn s H scope C cl fp) AB.qt A.nd (sc := scope) (fun x hx => ?_) tg h3
    show Loc (relS scope X.env.scope) x ∧ ((scope.names.lookup x == some .cell) = true ∨ (relS scope X.env.scope).names.lookup x = some .local)
    rcases locB_of hx with q | q
    · have := relS_lookup (sc := X.env.scope) q rfl
      exact ⟨.inl this, .inr this⟩
    · have := relS_lookup (sc := X.env.scope) q rfl
      exact ⟨.inr this, .inl (by rw [q]; rfl)⟩
  · rcases ifs with _ | ⟨c', _ | ⟨_, _⟩⟩
    · cases c <;> first | (simp [cndB] at h7; done) | exact pts_nil
    · have hcn : tCnd G fa XR X c = tEvT G fa XR W0 X c := by cases c <;> first | rfl | (simp [cndB] at h7; done)
      rw [hcn]
      refine pts_one (hc (blkP X pn s H scope C cl fp) W0 AB c' ?_)
      cases c <;> first | (simp [cndB] at h7; done) | exact h7
    · simp [cndB] at h7
  · exact he (blkP X pn s H scope C cl fp) W0 AB elt' h6
theorem ok_cmp1 {vs : List Nat} {tg it c elt : E} (hi : OkI T G fa XR k it) (hc : OkT T G fa XR k c) (he : OkE T G fa XR k elt) : OkE T G fa XR k (.cmp1 vs tg it c elt) := fun X W A ex h => by
  cases ex <;> first | (simp [chkE] at h; done) | skip
  cases hh : T.hot with
  | false =>
    obtain ⟨tg', it', ifs, rfl, P⟩ := comp_ok (pn := []) A (fun z => by rw [hh] at z; cases z) hi hc he h
    have q := pe_lc (A.calm hh) A.nd P.it P.blk (fun s H C cl fp => P.g s H C cl fp) (fun s H C cl fp => P.t s H C cl fp) (fun s H C cl fp => P.e s H C cl fp) P.s (pos := by assumption)
    rw [own_map] at q
    exact PE.imp q fun σ H Q q0 => cmp_read P.lt P.ts q0
  | true =>
    obtain ⟨tg', it', ifs, rfl, P⟩ := comp_ok (pn := X.pn) A (fun _ => rfl) hi hc he h
    obtain ⟨Y, a, C, oe, pn, D, hx⟩ := A.hotx hh
    have q := pe_lcQ hx.hot A.nd (P.itp hh) P.blk (fun s H C cl fp => P.g s H C cl fp) (fun s H C cl fp => P.t s H C cl fp) (fun s H C cl fp => P.e s H C cl fp) P.s (pos := by assumption)
    rw [own_map] at q
    exact PE.imp q fun σ H Q q0 => cmp_read P.lt P.ts q0
end
end PF
end
section
set_option Elab.async false
set_option autoImplicit false
set_option linter.all false
set_option maxRecDepth 100000
namespace PF
open PySem PySem.Spec PyProof.Rows L2

section
variable {T : Tbl} {G : Gx} {fa : FA} {XR : XRt} {k : Nat} {W : WX} {X : Cx} {σ : L2.St} {H : Hp} {F : Hp} {env : En}
theorem gcdF_inv {u v w : U} (h : gcdF u v = some w) : ∃ i j : Int, u = .int i ∧ v = .int j ∧ w = .int (Nat.gcd i.natAbs j.natAbs : Nat) := by
  cases u <;> cases v <;> first | (simp [gcdF] at h; done) | skip
  simp only [gcdF, Option.some.injEq] at h
  exact ⟨_, _, rfl, rfl, h.symm⟩
theorem ok_gcd {a b : E} (ha : OkE T G fa XR k a) (hb : OkE T G fa XR k b) : OkE T G fa XR k (.gcd a b) := fun X W A ex hc => by
  cases ex <;> first | (simp [chkE] at hc; done) | skip
  rename_i f xs ks p
  cases f <;> first | (simp [chkE] at hc; done) | skip
  rename_i x q
  cases ks <;> rcases xs with _ | ⟨y, _ | ⟨z, _ | ⟨_, _⟩⟩⟩ <;> first | (simp [chkE] at hc; done) | skip
  simp only [chkE, Bool.and_eq_true] at hc
  obtain ⟨⟨⟨⟨⟨h1, h2⟩, h3⟩, h4⟩, h5⟩, h6⟩ := hc
  obtain ⟨rfl, g1, g2, g3⟩ := globB_of h2
  refine PE.imp (pe_callBfun cr_gcd g1 (A.gcd h1) (pa_cons (ha X W A y h3) (pa_cons (hb X W A z h4) pa_nil (star_cons h6)) (star_cons h5)) g2 (star_cons h5) (by rw [star_cons h6]; rfl)) fun σ H Q ⟨F, env, hn, S, o⟩ => ?_
  simp only [evE] at o
  obtain ⟨F0, env0, h0, S0, o0⟩ := ev2 (a := a) (b := b) hn S (.refl _ _ _ _) o fun _ => ⟨_, rfl⟩
  refine ⟨F0, env0, h0, S0, o0.imp fun _ _ _ ⟨u, e, F3, env3, h3, S3, o3⟩ => ⟨u, e, F3, env3, h3, S3, o3.imp fun _ _ H2 ⟨v, e', F2, env1, env2, p, q, e1, e2, S2, l2, st2⟩ => ⟨v, e', ?_⟩⟩⟩
  simp only [e1, e2, Res.bind_ok] at o
  obtain ⟨u1, k1, o⟩ := Out.of o
  obtain ⟨u2, k2, o⟩ := Out.of o
  obtain ⟨w, k3, o⟩ := Out.of o
  obtain ⟨i, j, rfl, rfl, rfl⟩ := gcdF_inv k3
  have hln := S.len
  have r1 := look_rep (j := 0) S2 (by omega) (by omega) rfl rfl k1
  have r2 := look_rep (j := 1) S2 (by omega) (by omega) rfl rfl k2
  cases r1.int
  cases r2.int
  refine ⟨i, j, rfl, ?_⟩
  have S2' := S2.head (by omega) (by omega)
  obtain ⟨v'', e'', q⟩ := Out.post S2' (st2.head (by omega) (by omega)) l2 o (.val S2'.fr (.int _))
  cases e''
  exact q
theorem RepAll.strs {K : PySem.W.Frag} : ∀ {xs : List V} {us : List U} {ws : List Str}, RepAll K fa F xs us → U.strs us = some ws → xs = ws.map V.str
  | _, _, ws, .nil, e => by simp [U.strs] at e; subst e; rfl
  | _, _, ws, .cons (u := u) (us := us) r t, e => by
    cases r <;> try (simp [U.strs] at e; done)
    rename_i z
    simp only [U.strs] at e
    cases q : U.strs us with
    | none => rw [q] at e; cases e
    | some ms =>
      rw [q] at e
      cases e
      rw [RepAll.strs t q]
      rfl
theorem joinF_inv {z : Str} {v w : U} (h : joinF (.str z) v = some w) : ∃ us ws, (v = .lst us ∨ v = .tup us) ∧ U.strs us = some ws ∧ (ws.map (·.length)).sum + ws.length * z.length ≤ 16777216 ∧ w = .str (Txt.join z ws) := by
  cases v <;> first | (simp [joinF] at h; done) | skip
  all_goals
    simp only [joinF] at h
    obtain ⟨ws, h1, h2⟩ := Option.bind_eq_some_iff.mp h
    simp only [Option.ite_none_right_eq_some, Option.some.injEq] at h2
    exact ⟨_, ws, by simp, h1, h2.1, h2.2.symm⟩
theorem ok_join {a b : E} (ha : OkE T G fa XR k a) (hb : OkE T G fa XR k b) : OkE T G fa XR k (.join a b) := fun X W A ex hc => by
  cases ex <;> first | (simp [chkE] at hc; done) | skip
  rename_i f xs ks pos
  cases f <;> first | (simp [chkE] at hc; done) | skip
  rename_i c n ap
  cases c <;> first | (simp [chkE] at hc; done) | skip
  rename_i cc j cp
  cases cc <;> first | (simp [chkE] at hc; done) | skip
  rename_i z
  cases ks <;> rcases xs with _ | ⟨y, _ | ⟨_, _⟩⟩ <;> first | (simp [chkE] at hc; done) | skip
  simp only [chkE, Bool.and_eq_true, decide_eq_true_eq] at hc
  obtain ⟨⟨⟨⟨rfl, h2⟩, h3⟩, h4⟩, h5⟩ := hc
  have hz : a = .con (.str z) := by
    cases a <;> first | (simp [chkE] at h3; done) | skip
    rename_i u
    cases u <;> simp [chkE, conB] at h3
    rw [h3]
  subst hz
  refine PE.imp (pe_join (ha X W A _ h3) (hb X W A y h4) (by rw [star_cons h5]; rfl) rfl h2) fun σ H Q ⟨F, env, hn, S, o⟩ => ?_
  simp only [evE, Res.bind_ok] at o
  refine ⟨F, env, hn, S, fun vs F1 H1 S1 st1 l1 => ?_⟩
  have hx := len_side (ws := [Slot.val (U.str z)]) S1 (by omega)
  obtain ⟨v, rfl⟩ := List.length_eq_one_iff.mp hx
  have hv : v = .str z := by
    obtain ⟨v', q1, q2⟩ := S1.slot env.length (.val (.str z)) (by rw [getR (Nat.le_refl _)]; simp)
    rw [l1, ← hn, getR (Nat.le_refl _)] at q1
    simp at q1
    subst q1
    cases q2
    rfl
  subst hv
  refine ⟨_, rfl, ⟨_, rfl⟩, ?_⟩
  have S1' := S1.head (by omega) (by omega)
  have st1' := st1.head (by omega) (Nat.le_refl _)
  obtain ⟨F2, env2, h2, S2, o2⟩ := ev1 (a := b) hn S1' st1' o
  refine ⟨F2, env2, h2, S2, o2.imp fun _ _ H2 ⟨y', e', F3, env3, p, e3, S3, st3, l3⟩ => ⟨y', e', ?_⟩⟩
  simp only [e3, Res.bind_ok, look, Res.of_some] at o
  obtain ⟨u2, k2, o⟩ := Out.of o
  obtain ⟨w, k3, o⟩ := Out.of o
  obtain ⟨us, ws, hu, q1, q2, rfl⟩ := joinF_inv k3
  have r2 := look_rep (j := 0) S3 (by omega) (by omega) rfl rfl k2
  have S3' := S3.head (by omega) (by omega)
  have fin : Q (.str (Txt.join z ws)) H2 := by
    obtain ⟨v'', e'', q⟩ := Out.post S3' ((st1'.trans st3).head (by omega) (by omega)) l3 o (.val S3'.fr (.str _))
    cases e''
    exact q
  rcases hu with rfl | rfl
  · obtain ⟨D, xs, e4, q4, q5⟩ := r2.lst S3.fr
    subst e4
    rw [q5.strs q1] at q4
    exact ⟨z, D, ws, rfl, rfl, .inl (.of q4), q2, fin⟩
  · obtain ⟨D, xs, e4, q4, q5⟩ := r2.tup S3.fr
    subst e4
    rw [q5.1.strs q1] at q4
    exact ⟨z, D, ws, rfl, rfl, .inr q4, q2, fin⟩
theorem ok_isx (i c : Nat) : OkE T G fa XR k (.isx i c) := fun X W A ex hc => by
  cases ex <;> first | (simp [chkE] at hc; done) | skip
  rename_i f xs ks p
  cases f <;> first | (simp [chkE] at hc; done) | skip
  rename_i x q
  cases ks <;> rcases xs with _ | ⟨y, _ | ⟨z, _ | ⟨_, _⟩⟩⟩ <;> first | (simp [chkE] at hc; done) | skip
  cases y <;> first | (simp [chkE] at hc; done) | skip
  cases z <;> first | (simp [chkE] at hc; done) | skip
  rename_i y yp z zp
  simp only [chkE, Bool.and_eq_true] at hc
  obtain ⟨⟨⟨⟨h1, h2⟩, h3⟩, h4⟩, h5⟩ := hc
  obtain ⟨rfl, g1, g2, g3⟩ := globB_of h2
  obtain ⟨n1, n2, n3, n4⟩ := nameB_of h4
  split at h5
  · rename_i w hw
    obtain ⟨rfl, i1, i2, i3⟩ := globB_of h5
    obtain ⟨C', c1, c2, _⟩ := A.exc c _ hw
    obtain ⟨Y, a, C, oe, pn, D, hx⟩ := A.hotx h1
    have ci : CallR X (.builtin "isinstance") (rIsE X.K C a) := by
      have e := hx.eq
      have z1 := hx.z.zc
      have z2 := hx.fld
      have z3 := hx.exc
      subst e
      exact call_isE (X := Y) z3 z1 z2
    refine PE.imp (pe_callB ci g1 (A.free _ h3) (by decide +kernel) (pa_cons (pe_var n1 n2 n3 n4) (pa_cons (pe_glob (v := .ref C') i1 c2 rfl i2) pa_nil)) g3 g2) fun σ H Q ⟨F, env, hn, S, o⟩ => ?_
    simp only [evE] at o
    split at o
    · rename_i j ej
      split at o
      · rename_i hj
        subst hj
        obtain ⟨D', d1, o1⟩ := Out.of o
        have d3 : D' = D := Option.some.inj (d1.symm.trans hx.hx)
        subst d3
        obtain ⟨b, d2, o2⟩ := Out.of o1
        obtain ⟨v, r1, r2⟩ := S.slot i _ ej
        cases r2
        rename_i a' ha'
        rw [hx.f] at ha'
        cases ha'
        refine ⟨_, r1, ?_⟩
        refine ⟨.ref C', .ref C', b, rfl, fun u hu => hu, A.sub D' c b C C' hx.cls c1 d2, ?_⟩
        obtain ⟨v'', e'', q⟩ := Out.post S (.refl _ _ _ _) (S.len.symm.trans hn) o2 (.val S.fr (.bl b))
        cases e''
        exact q
      · exact o.elim
    · exact o.elim
  · cases h5
/-- x(lambda: body) -/
theorem pe_tell {i : Nat} {x a : Str} {g : Addr} {pg : Arguments} {bg : List Stmt} {sg lsc : Scope} {dV kV doc pm cdv ct oc : Value} {an od : Option Addr} {osl : Array (Option Value)} {Ng : List Str} {body : Expr} {t : XK → TE} {p lp pos : Pos}
    (TO : TelOk X.prog X.w X.K X.mg X.base G fa i x g pg bg sg dV kV doc pm cdv ct oc an od osl Ng a) (LO : LamOk fa k X) (L : LamX.LamS X.env.scope lsc) (hg : Gl X x) (hdb : (x == ("__debug__" : Str)) = false)
    (hbody : ∀ (A : Around) (outer : List Env) (s : Shared) (H : Hp) (E : XK) (f c : Addr), Room k (A.deeper (LamX.lamEnv X lsc s.heap.objs.size f c)) → PE (lamC X A outer s H E lsc f c) body (t E)) :
    PE X (.Call (.Name x p) [.Lambda ⟨[], [], none, [], [], none, []⟩ body lsc lp] [] pos) (fun σ H Q => LamX.Tabs fa.tabs H ∧ ∀ H1, LamX.ExtN H H1 → LamX.Tabs fa.tabs H1 → tTel G fa i (fun E H' Q' => t E σ H' Q') H1 Q) := by
  constructor
  rintro pins s σ H Q I ⟨tabs, then_⟩
  obtain ⟨c, P, TB, code, mem, uni⟩ := LO.tab
  refine wpAny_Call_Name_kw (ld_glob I hg TO.at_ ?_ hdb)
  refine PySem.W.callWith_K (h₀ := X.base) I.ok.mod.kin TO.keep ?_ (by rfl) (by rfl)
  show wpAny _ _ (spliced ((false, eval (.Lambda ⟨[], [], none, [], [], none, []⟩ body lsc lp) X.env) :: backTo pos (starEach [] X.env))) _ _ s
  refine Calls.spliced_cons (LamX.lam_make2 I TB code mem uni tabs rfl (L.has I.ok) fun f c' pm' ctv G1 s1 J ext tabs1 of nf fs hc => Calls.spliced_nil ⟨J.kIn, ?_⟩)
  have told : codeAny (model X.prog X.w) X.A (.call (.ref g) ⟨[.ref f], []⟩) (CR C8.CX0 X.stack X.prog X.w G1 s1 Q C8.E0) s1 := by
    refine LamX.run_ofS (N := Ng) (ps := [a]) (us := [.ref f]) (vs := [.ref f]) TO.lk TO.code TO.sc LO.room1 J.env0 (TO.bind s1 [.ref f] J.kIn rfl) (.cons rfl .nil) rfl fun hr => ?_
    obtain ⟨t', p1, p2⟩ := TO.run X.A X.stack f c' s1 G1 Q _ (fun E H' Q' => t E σ H' Q') hr (fun W pn xe E q1 q2 tk hW => act J L of nf fs rfl tk hW hr (fun e2 => LO.room2 _ e2) (fun A outer s H h => hbody A outer s H E f c' h) TO.n0 TO.vis TO.dbg TO.cdc) hc (then_ G1 ext tabs1)
    exact ⟨t', p1.nox, p2⟩
  refine wpAny_call (codeAny_mono told fun r s2 z => ?_)
  cases r with
  | error e => exact (show False from z).elim
  | ok fl =>
    cases fl with
    | ret u => exact J.after z
    | next => exact z.elim
    | brk => exact z.elim
    | cont => exact z.elim
theorem Sim.extN {K : PySem.W.Frag} {n : Nat} {H1 : Hp} (S : Sim K fa n F H σ env) (x : LamX.ExtN H H1) (t : LamX.Tabs fa.tabs H1) : Sim K fa n F H1 σ env ∧ Stp F H σ env F H1 σ env := by
  have nt : ∀ {a o}, F a = some o → ∀ ps, o ≠ .tbl ps := fun {a o} e ps z => S.fnt a ps (by rw [e, z])
  exact ⟨⟨S.len, fun a o e => x a o (S.fr a o e) (nt e), fun i s e => (S.slot i s e).move (.refl _) rfl (fun _ _ => rfl) fun u p a o e1 e2 e3 e4 => by
    obtain ⟨a', o', q1, q2, q3, _⟩ := S.slot i s e |> (by subst e1; exact ·)
    rw [e2] at q1
    cases q1
    rw [e3] at q2
    cases q2
    exact ⟨x a o e3 q3.nt, e4⟩, S.inj, t, S.fnt⟩, ⟨.refl _, fun a o e _ nt => x a o e nt, fun _ h => .inl h, fun _ _ h => .inl h, fun _ u h => ⟨rfl, u, h⟩⟩⟩
/-- .. and where nothing but new objects came -/
theorem Sim.grow {K : PySem.W.Frag} {n : Nat} {H1 : Hp} (S : Sim K fa n F H σ env) (x : ∀ b o, H b = some o → H1 b = some o) : Sim K fa n F H1 σ env ∧ Stp F H σ env F H1 σ env := S.extN (LamX.ExtN.of x) (S.tab.ext x)
theorem Amb.lam (A : Amb T G fa XR k W X) {B : Around} {outer : List Env} {s : Shared} {H : Hp} {E : XK} {lsc : Scope} {f c : Addr} (h0 : T.hot = false) (hl : ¬ T.lsc = some lsc.names) (hr : Room k (B.deeper (LamX.lamEnv X lsc s.heap.objs.size f c))) :
    Amb T G fa XR k (fun cls d _ H => E cls d H) (lamC X B outer s H E lsc f c) where
  calm := fun _ => rfl
  nd := A.nd
  room := fun _ => hr
  un := by
    have := hr.un
    show (B.deeper (LamX.lamEnv X lsc s.heap.objs.size f c)).units + 65 < cLine
    omega
  takes := L2N.takes_of rfl rfl rfl rfl
  exc := A.exc
  xr := A.xr
  xrr := A.xrr
  gcd := A.gcd
  sub := A.sub
  hotx := fun h => by rw [h0] at h; cases h
  lamt := fun ns h1 h2 => absurd (by rw [h1, ← h2]; rfl) hl
  tel := A.tel
  free := A.free
  cst := A.cst
  fns := A.fns
  md := A.md
  ok := A.ok
theorem ok_lam {f : Nat} {e : E} (he : OkE T G fa XR k e) : OkE T G fa XR k (.lam f e) := fun X W A ex hc => by
  cases ex <;> first | (simp [chkE] at hc; done) | skip
  rename_i g xs ks p
  cases g <;> first | (simp [chkE] at hc; done) | skip
  rename_i x q
  cases ks <;> rcases xs with _ | ⟨y, _ | ⟨_, _⟩⟩ <;> first | (simp [chkE] at hc; done) | skip
  cases y <;> first | (simp [chkE] at hc; done) | skip
  rename_i params body lsc lp
  simp only [chkE, Bool.and_eq_true, Bool.not_eq_true', decide_eq_true_eq, decide_eq_false_iff_not] at hc
  obtain ⟨⟨⟨⟨⟨⟨h0, h1⟩, h2⟩, h3⟩, h4⟩, h5⟩, h6⟩ := hc
  obtain rfl := noPar_of h4
  split at h3
  · rename_i y hy
    obtain ⟨rfl, g1, g2, g3⟩ := globB_of h3
    obtain ⟨gA, pg, bg, sg, dV, kV, doc, pm, cdv, ct, oc, an, od, osl, Ng, a, TO⟩ := A.tel h0 f _ hy
    have LO := A.lamt _ h1 rfl
    refine PE.imp (pe_tell (t := fun E => tEv G fa XR (fun cls d _ H => E cls d H) X e) TO LO (LamX.lamS_by h5) g1 g2 fun B outer s H E f' c' hr => he _ _ (A.lam h0 h2 hr) body h6) fun σ H Q ⟨F, env, hn, S, o⟩ => ⟨S.tab, fun H1 x1 t1 => ?_⟩
    obtain ⟨S1, st1⟩ := S.extN x1 t1
    refine ⟨F, env, hn, S1, ?_⟩
    simp only [evE] at o
    -- the answer, behind the lambda's end
    have fin : ∀ {F2 H2 : Hp} {env2 : En} {s : Str}, Sim X.K fa X.N.length F2 H2 σ env2 → Stp F H σ env F2 H2 σ env2 → env2.length = X.N.length → Out X.K fa XR W X.N.length (fun w => [w]) F H σ env (.ok (.val (.str s), env2)) (fun _ vs H' => ∃ v, vs = [v] ∧ Q v H') → GrowQ fa Q s H2 := fun {F2 H2 env2 s} S2 st2 l2 o2 => ⟨S2.tab, fun H3 hx ht => by
      obtain ⟨S3, st3⟩ := S2.extN hx ht
      obtain ⟨v'', e'', q⟩ := Out.post S3 (st2.trans st3) l2 o2 (.val S3.fr (.str s))
      cases e''
      exact q⟩
    cases ev : evE G e env with
    | bad => rw [ev] at o; exact o.elim
    | ok z =>
      obtain ⟨w, env2⟩ := z
      rw [ev] at o
      simp only at o
      obtain ⟨u, k1, o2⟩ := Out.of o
      intro vs F2 H2 S2 st2 l2
      have hv := len_side (ws := [w]) S2 (by omega)
      obtain ⟨v, rfl⟩ := List.length_eq_one_iff.mp hv
      refine ⟨v, rfl, u, k1, ?_⟩
      have S2' := S2.head (by omega) (by omega)
      have hl0 := S.len
      exact fin S2' ((st1.trans st2).head (by omega) (by omega)) l2 o2
    | exc z env2 =>
      rw [ev] at o
      simp only at o
      obtain ⟨u, k1, o2⟩ := Out.of o
      intro F2 H2 cls d S2 st2 hx
      obtain ⟨e1, C, e2, e3, e4⟩ := A.xrr _ _ _ _ _ hx
      have ez : z = ⟨z.cls, []⟩ := by cases z; simp at e1; rw [e1]
      have hl2 := S2.len
      exact ⟨z.cls, C, u, e2, e3, e4, by rw [← ez]; exact k1, fin S2 (st1.trans st2) (by omega) o2⟩
  · cases h3
end
end PF
end
section
set_option Elab.async false
set_option autoImplicit false
set_option linter.all false
set_option maxRecDepth 100000
namespace PF
open PySem PySem.Spec PyProof.Rows L2

section
variable {T : Tbl} {G : Gx} {fa : FA} {XR : XRt} {k : Nat}
structure OkAll (T : Tbl) (G : Gx) (fa : FA) (XR : XRt) (k : Nat) (x : E) : Prop where
  e : OkE T G fa XR k x
  t : OkT T G fa XR k x
  l : OkL T G fa XR k x
  i : OkI T G fa XR k x
  w : OkW T G fa XR k x
  h : ∀ a r, x = .cons a r → OkE T G fa XR k a
/-- an expression that is neither a test, nor a list, nor an iterator -/
theorem all_plain {e : E} (he : OkE T G fa XR k e) (ht : e.tst = false) (hl : ∀ N sc xs, chkL T N e sc xs = false) (hi : ∀ N sc tg ex, chkI T N e sc tg ex = false) (hw : ∀ N sc op xs p, chkE T N e sc (.BoolOp op xs p) = false) (hh : ∀ a r, e ≠ .cons a r) : OkAll T G fa XR k e :=
  ⟨he, okT_val he ht, fun X W A xs h => (by rw [hl] at h; cases h), fun X W A tg ex h => (by rw [hi] at h; cases h), fun X W A op xs p h => (by rw [hw] at h; cases h), fun a r z => (hh a r z).elim⟩
theorem all_tst {e : E} (he : OkE T G fa XR k e) (ht : OkT T G fa XR k e) (hw : OkW T G fa XR k e) (hl : ∀ N sc xs, chkL T N e sc xs = false) (hi : ∀ N sc tg ex, chkI T N e sc tg ex = false) (hh : ∀ a r, e ≠ .cons a r) : OkAll T G fa XR k e :=
  ⟨he, ht, fun X W A xs h => (by rw [hl] at h; cases h), fun X W A tg ex h => (by rw [hi] at h; cases h), hw, fun a r z => (hh a r z).elim⟩
theorem noE {e : E} (h : ∀ N sc ex, chkE T N e sc ex = false) : OkE T G fa XR k e := fun X W A ex c => by rw [h] at c; cases c
theorem noW {e : E} (h : ∀ N sc op xs p, chkE T N e sc (.BoolOp op xs p) = false) : OkW T G fa XR k e := fun X W A op xs p c => by rw [h] at c; cases c
theorem ok_all : ∀ e : E, OkAll T G fa XR k e := by
  intro e
  induction e with
  | nil => exact ⟨noE fun N sc ex => by cases ex <;> simp [chkE], okT_val (noE fun N sc ex => by cases ex <;> simp [chkE]) rfl, ok_nilL, fun X W A tg ex h => (by simp [chkI] at h), noW fun N sc op xs p => by simp [chkE], fun a r z => by cases z⟩
  | cons a r iha ihr => exact ⟨noE fun N sc ex => by cases ex <;> simp [chkE], okT_val (noE fun N sc ex => by cases ex <;> simp [chkE]) rfl, ok_consL iha.e ihr.l, fun X W A tg ex h => (by simp [chkI] at h), noW fun N sc op xs p => by simp [chkE], fun a' r' z => by cases z; exact iha.e⟩
  | var i => exact all_plain (ok_var i) rfl (fun N sc xs => by cases xs <;> simp [chkL]) (fun N sc tg ex => by simp [chkI]) (fun N sc op xs p => by simp [chkE]) (fun a r z => by cases z)
  | bor i => exact all_plain (ok_bor i) rfl (fun N sc xs => by cases xs <;> simp [chkL]) (fun N sc tg ex => by simp [chkI]) (fun N sc op xs p => by simp [chkE]) (fun a r z => by cases z)
  | mov i => exact all_plain (ok_mov i) rfl (fun N sc xs => by cases xs <;> simp [chkL]) (fun N sc tg ex => by simp [chkI]) (fun N sc op xs p => by simp [chkE]) (fun a r z => by cases z)
  | con u => exact all_plain (ok_con u) rfl (fun N sc xs => by cases xs <;> simp [chkL]) (fun N sc tg ex => by simp [chkI]) (fun N sc op xs p => by simp [chkE]) (fun a r z => by cases z)
  | glc i => exact all_plain (ok_glc i) rfl (fun N sc xs => by cases xs <;> simp [chkL]) (fun N sc tg ex => by simp [chkI]) (fun N sc op xs p => by simp [chkE]) (fun a r z => by cases z)
  | fnr i => exact all_plain (ok_fnr i) rfl (fun N sc xs => by cases xs <;> simp [chkL]) (fun N sc tg ex => by simp [chkI]) (fun N sc op xs p => by simp [chkE]) (fun a r z => by cases z)
  | tup es ih => exact all_plain (ok_tup ih.l) rfl (fun N sc xs => by cases xs <;> simp [chkL]) (fun N sc tg ex => by simp [chkI]) (fun N sc op xs p => by simp [chkE]) (fun a r z => by cases z)
  | lst es ih => exact all_plain (ok_lst ih.l) rfl (fun N sc xs => by cases xs <;> simp [chkL]) (fun N sc tg ex => by simp [chkI]) (fun N sc op xs p => by simp [chkE]) (fun a r z => by cases z)
  | dic0 => exact all_plain ok_dic0 rfl (fun N sc xs => by cases xs <;> simp [chkL]) (fun N sc tg ex => by simp [chkI]) (fun N sc op xs p => by simp [chkE]) (fun a r z => by cases z)
  | bin op a b iha ihb => exact all_plain (ok_bin iha.e ihb.e) rfl (fun N sc xs => by cases xs <;> simp [chkL]) (fun N sc tg ex => by simp [chkI]) (fun N sc op xs p => by simp [chkE]) (fun a r z => by cases z)
  | neg a iha => exact all_plain (ok_neg iha.e) rfl (fun N sc xs => by cases xs <;> simp [chkL]) (fun N sc tg ex => by simp [chkI]) (fun N sc op xs p => by simp [chkE]) (fun a r z => by cases z)
  | not a iha => exact all_tst (ok_not iha.e) (okT_not iha.t) (noW fun N sc op xs p => by simp [chkE]) (fun N sc xs => by cases xs <;> simp [chkL]) (fun N sc tg ex => by simp [chkI]) (fun a r z => by cases z)
  | cmp op a b iha ihb => exact all_tst (ok_cmp iha.e ihb.e) (okT_cmp iha.e ihb.e) (noW fun N sc op xs p => by simp [chkE]) (fun N sc xs => by cases xs <;> simp [chkL]) (fun N sc tg ex => by simp [chkI]) (fun a r z => by cases z)
  | chn op op' a b c iha ihb ihc => exact all_tst (ok_chn iha.e ihb.e ihc.e) (okT_chn iha.e ihb.e ihc.e) (noW fun N sc op xs p => by simp [chkE]) (fun N sc xs => by cases xs <;> simp [chkL]) (fun N sc tg ex => by simp [chkI]) (fun a r z => by cases z)
  | and a b iha ihb => exact all_tst (ok_and iha.e ihb.e) (okT_and (okW_and iha.t ihb.t ihb.w)) (okW_and iha.t ihb.t ihb.w) (fun N sc xs => by cases xs <;> simp [chkL]) (fun N sc tg ex => by simp [chkI]) (fun a r z => by cases z)
  | or a b iha ihb => exact all_tst (ok_or iha.e ihb.e) (okT_or (okW_or iha.t ihb.t ihb.w)) (okW_or iha.t ihb.t ihb.w) (fun N sc xs => by cases xs <;> simp [chkL]) (fun N sc tg ex => by simp [chkI]) (fun a r z => by cases z)
  | ite c a b ihc iha ihb => exact all_tst (ok_ite ihc.t iha.e ihb.e) (okT_ite ihc.t iha.t ihb.t) (noW fun N sc op xs p => by simp [chkE]) (fun N sc xs => by cases xs <;> simp [chkL]) (fun N sc tg ex => by simp [chkI]) (fun a r z => by cases z)
  | call f es ih => exact all_plain (ok_call ih.l) rfl (fun N sc xs => by cases xs <;> simp [chkL]) (fun N sc tg ex => by simp [chkI]) (fun N sc op xs p => by simp [chkE]) (fun a r z => by cases z)
  | cvar i es ih => exact all_plain (ok_cvar ih.l) rfl (fun N sc xs => by cases xs <;> simp [chkL]) (fun N sc tg ex => by simp [chkI]) (fun N sc op xs p => by simp [chkE]) (fun a r z => by cases z)
  | blt b es ih => exact all_plain (ok_blt ih.l) rfl (fun N sc xs => by cases xs <;> simp [chkL]) (fun N sc tg ex => by simp [chkI]) (fun N sc op xs p => by simp [chkE]) (fun a r z => by cases z)
  | ist t a iha => exact all_plain (ok_ist iha.e) rfl (fun N sc xs => by cases xs <;> simp [chkL]) (fun N sc tg ex => by simp [chkI]) (fun N sc op xs p => by simp [chkE]) (fun a r z => by cases z)
  | idx a b iha ihb => exact all_plain (ok_idx iha.e ihb.e) rfl (fun N sc xs => by cases xs <;> simp [chkL]) (fun N sc tg ex => by simp [chkI]) (fun N sc op xs p => by simp [chkE]) (fun a r z => by cases z)
  | slc a lo hi iha ihl ihh => exact all_plain (ok_slc iha.e ihl.e ihh.e) rfl (fun N sc xs => by cases xs <;> simp [chkL]) (fun N sc tg ex => by simp [chkI]) (fun N sc op xs p => by simp [chkE]) (fun a r z => by cases z)
  | lrg kk es ih => exact all_plain (ok_lrg ih.l) rfl (fun N sc xs => by cases xs <;> simp [chkL]) (fun N sc tg ex => by simp [chkI]) (fun N sc op xs p => by simp [chkE]) (fun a r z => by cases z)
  | trg kk es ih => exact all_plain (ok_trg ih.l) rfl (fun N sc xs => by cases xs <;> simp [chkL]) (fun N sc tg ex => by simp [chkI]) (fun N sc op xs p => by simp [chkE]) (fun a r z => by cases z)
  | itr kk es ih =>
    refine ⟨noE fun N sc ex => by cases ex <;> simp [chkE], okT_val (noE fun N sc ex => by cases ex <;> simp [chkE]) rfl, fun X W A xs h => (by cases xs <;> simp [chkL] at h), fun X W A tg ex h => ?_, noW fun N sc op xs p => by simp [chkE], fun a r z => by cases z⟩
    by_cases hk : kk = .plain
    · subst hk
      obtain ⟨e, rfl⟩ := itr_plain h
      exact ok_itr_plain (ih.h e .nil rfl) X W A tg ex h
    · exact ok_itr ih.l hk X W A tg ex h
  | cmp1 vs tg it c elt _ ihi ihc ihe => exact all_plain (ok_cmp1 ihi.i ihc.t ihe.e) rfl (fun N sc xs => by cases xs <;> simp [chkL]) (fun N sc tg ex => by simp [chkI]) (fun N sc op xs p => by simp [chkE]) (fun a r z => by cases z)
  | lam f e ih => exact all_plain (ok_lam ih.e) rfl (fun N sc xs => by cases xs <;> simp [chkL]) (fun N sc tg ex => by simp [chkI]) (fun N sc op xs p => by simp [chkE]) (fun a r z => by cases z)
  | isx i c => exact all_plain (ok_isx i c) rfl (fun N sc xs => by cases xs <;> simp [chkL]) (fun N sc tg ex => by simp [chkI]) (fun N sc op xs p => by simp [chkE]) (fun a r z => by cases z)
  | join a b iha ihb => exact all_plain (ok_join iha.e ihb.e) rfl (fun N sc xs => by cases xs <;> simp [chkL]) (fun N sc tg ex => by simp [chkI]) (fun N sc op xs p => by simp [chkE]) (fun a r z => by cases z)
  | gcd a b iha ihb => exact all_plain (ok_gcd iha.e ihb.e) rfl (fun N sc xs => by cases xs <;> simp [chkL]) (fun N sc tg ex => by simp [chkI]) (fun N sc op xs p => by simp [chkE]) (fun a r z => by cases z)
  | tnm i => exact all_plain (noE fun N sc ex => by cases ex <;> simp [chkE]) rfl (fun N sc xs => by cases xs <;> simp [chkL]) (fun N sc tg ex => by simp [chkI]) (fun N sc op xs p => by simp [chkE]) (fun a r z => by cases z)
  | ttp es ih => exact all_plain (noE fun N sc ex => by cases ex <;> simp [chkE]) rfl (fun N sc xs => by cases xs <;> simp [chkL]) (fun N sc tg ex => by simp [chkI]) (fun N sc op xs p => by simp [chkE]) (fun a r z => by cases z)
end
end PF
end
section
set_option Elab.async false
set_option autoImplicit false
set_option linter.all false
set_option maxRecDepth 100000
namespace PF
open PySem PySem.Spec PyProof.Rows L2

def namesB (sc : Scope) (ts : List Expr) : List Str := ts.filterMap fun
    | .Name id pos => if sc.names.lookup id == some .local && pos.line == (ts.head?.map (·.pos.line)).getD 0 then some id else none
    | _ => none
/-- the stores of [ts] = (vs), swapped or not -/
def swB (sc : Scope) (ts vs : List Expr) : Option (Option (List Str)) :=
    if !(ts.length == 2 || ts.length == 3) || vs.length != ts.length then some none else
    if (vs.any fun | .Starred .. => true | _ => false) then some none else
    if (namesB sc ts).length != ts.length || (namesB sc ts).eraseDups.length != (namesB sc ts).length then some none else
    if vs.all (foldedForSure 8) then some none else
    if vs.all (constantsAlone 8) then none else some (some (namesB sc ts))
theorem sw_tup {env : Env} {ts vs : List Expr} {k k' : Nat} {p p' : Pos} {r : Option (List Str)} (hk : env.scope.kind = .function) (h : swB env.scope ts vs = some r) : swappedStores [.Tuple ts k p] (.Tuple vs k' p') env = pure r := by
  have hb : env.blockKind = .function := by unfold Env.blockKind; rw [hk]; rfl
  have e : swappedStores [.Tuple ts k p] (.Tuple vs k' p') env = (
    if !(ts.length == 2 || ts.length == 3) || vs.length != ts.length || env.blockKind != .function then pure none else
    if (vs.any fun | .Starred .. => true | _ => false) then pure none else
    if (namesB env.scope ts).length != ts.length || (namesB env.scope ts).eraseDups.length != (namesB env.scope ts).length then pure none else
    if vs.all (foldedForSure 8) then pure none else
    if vs.all (constantsAlone 8) then (unsupported "assign.tuple-of-constant-expressions:order-of-the-stores" >>= fun _ => pure (some (namesB env.scope ts))) else pure (some (namesB env.scope ts))) := rfl
  rw [e, hb]
  unfold swB at h
  rw [show ((ScopeKind.function != ScopeKind.function) = false) from rfl, Bool.or_false]
  split at h
  · rename_i c; rw [if_pos c]; cases h; rfl
  · rename_i c
    rw [if_neg c]
    split at h
    · rename_i c; rw [if_pos c]; cases h; rfl
    · rename_i c
      rw [if_neg c]
      split at h
      · rename_i c; rw [if_pos c]; cases h; rfl
      · rename_i c
        rw [if_neg c]
        split at h
        · rename_i c; rw [if_pos c]; cases h; rfl
        · rename_i c
          rw [if_neg c]
          split at h
          · cases h
          · rename_i c; rw [if_neg c]; cases h; rfl
def tupE : Expr → Bool
  | .Tuple .. => true
  | _ => false
theorem sw_val {env : Env} {ts : List Expr} {v : Expr} (h : tupE v = false) : swappedStores ts v env = pure none := by
  cases v <;> first | (cases h; done) | skip
  all_goals rcases ts with _ | ⟨t, _ | ⟨_, _⟩⟩ <;> first | rfl | (cases t <;> rfl)
theorem sw_sub {env : Env} {o i v : Expr} {p : Pos} : swappedStores [.Subscript o i p] v env = pure none := by
  cases v <;> rfl
/-- a comprehension right into a name of this block -/
def asgB (sc : Scope) (y : Str) (py : Pos) : Expr → Option Bool
  | .ListComp _ _ scope pos => some (sc.names.lookup y == some .local && py.line == pos.line && !(scope.names.any fun (n, k) => n == y && (k == .local || k == .cell)))
  | .SetComp .. => none
  | .DictComp .. => none
  | _ => some false
theorem asg_ok {env : Env} {y : Str} {py : Pos} {v : Expr} {l : Nat} {b : Bool} (hk : env.scope.kind = .function) (h : asgB env.scope y py v = some b) : swapsWith v (some (.Name y py)) l env = pure b := by
  have hb : env.blockKind = .function := by unfold Env.blockKind; rw [hk]; rfl
  cases v <;> first | (cases h; done) | (cases h; rfl) | skip
  rename_i elt gs scope pos
  cases h
  have e : swapsWith (.ListComp elt gs scope pos) (some (.Name y py)) l env = pure (env.blockKind == .function && env.kindOf y == some .local && py.line == pos.line && !(scope.names.any fun (n, k) => n == y && (k == .local || k == .cell))) := rfl
  rw [e, hb]
  rfl
theorem sw_tg {t v : Expr} {l : Nat} {env : Env} (h : (match t with | .Name .. => false | _ => true) = true) : swapsWith v (some t) l env = pure false := by
  cases v <;> cases t <;> first | rfl | cases h
def noComp : Expr → Bool
  | .ListComp .. => false
  | .SetComp .. => false
  | .DictComp .. => false
  | _ => true
theorem sw_drop {v : Expr} {l : Nat} {env : Env} (h : noComp v = true) : swapsWith v none l env = pure false := by
  cases v <;> first | rfl | cases h
end PF
end
section
set_option Elab.async false
set_option autoImplicit false
set_option linter.all false
set_option maxRecDepth 100000
namespace PF
open PySem PySem.Spec PyProof.Rows L2

section
variable {K : PySem.W.Frag} {fa : FA} {n : Nat} {F H : Hp} {σ τ : L2.St} {env env' ws : En} {i : Nat} {s : Slot} {v : V}
theorem nb0 (S : Sim K fa n F H σ env) (he : env.length = n) (j : Nat) : env[j]? ≠ some (Slot.bor i) := fun e => by
  obtain ⟨⟨_, q⟩, _⟩ := S.slot j (.bor i) e
  have := ltOf e
  omega
/-- the first on the side goes into the place i -/
theorem Sim.putM (S : Sim K fa n F H (σ ++ some v :: τ) (env ++ s :: ws)) (hl : σ.length = n) (he : env.length = n) (hs : (∃ u, s = .val u) ∨ ∃ u, s = .own u false) (h : PF.put env i s = some env') (hw : NoBor ws) (hp : ∀ u, Slot.own u true ∉ ws) :
    Sim K fa n F H (σ.set i (some v) ++ τ) (env' ++ ws) ∧ Stp F H (σ ++ some v :: τ) (env ++ s :: ws) F H (σ.set i (some v) ++ τ) (env' ++ ws) := by
  obtain ⟨s0, e0, np, rfl⟩ := put_inv h
  have hi := ltOf e0
  have at0 : (env ++ s :: ws)[n]? = some s := by rw [getR (by omega), he]; simp
  have atσ : (σ ++ some v :: τ)[n]? = some (some v) := by rw [getR (by omega), hl]; simp
  have hz : (env.set i s).length = n := by simp [he]
  have hzσ : (σ.set i (some v)).length = n := by simp [hl]
  -- the place j behind the store is the place ρ j ahead of it
  have ρ : ∀ j : Nat, ∃ j', (∀ t, (env.set i s ++ ws)[j]? = some t → (env ++ s :: ws)[j']? = some t ∧ (σ.set i (some v) ++ τ)[j]? = (σ ++ some v :: τ)[j']?) ∧ ((j = i ∧ j' = n) ∨ (j ≠ i ∧ j < n ∧ j' = j) ∨ (n ≤ j ∧ j' = j + 1)) := fun j => by
    by_cases c : j = i
    · subst c
      refine ⟨n, fun t e => ?_, .inl ⟨rfl, rfl⟩⟩
      rw [getL (by omega), List.getElem?_set_self hi] at e
      rw [at0, atσ, getL (by omega), List.getElem?_set_self (by omega)]
      exact ⟨e, rfl⟩
    · by_cases d : j < n
      · refine ⟨j, fun t e => ?_, .inr (.inl ⟨c, d, rfl⟩)⟩
        rw [getL (by omega), List.getElem?_set_ne (fun z => c z.symm)] at e
        rw [getL (by omega), getL (by omega), getL (by omega), List.getElem?_set_ne (fun z => c z.symm)]
        exact ⟨e, rfl⟩
      · refine ⟨j + 1, fun t e => ?_, .inr (.inr ⟨by omega, rfl⟩)⟩
        rw [getR (by omega), hz] at e
        rw [getR (by omega), getR (by omega), getR (by omega), hzσ, hl, he, show j + 1 - n = (j - n) + 1 by omega]
        simp only [List.getElem?_cons_succ]
        exact ⟨e, True.intro⟩
  have old : ∀ (j : Nat) (u : U) (p : Bool) (a : Addr), (env.set i s ++ ws)[j]? = some (.own u p) → (σ.set i (some v) ++ τ)[j]? = some (some (.ref a)) →
      ∃ j', (env ++ s :: ws)[j']? = some (.own u p) ∧ (σ ++ some v :: τ)[j']? = some (some (.ref a)) ∧ ((j = i ∧ j' = n) ∨ (j ≠ i ∧ j < n ∧ j' = j) ∨ (n ≤ j ∧ j' = j + 1)) := fun j u p a h1 h2 => by
    obtain ⟨j', q1, q2⟩ := ρ j
    obtain ⟨x1, x2⟩ := q1 _ h1
    exact ⟨j', x1, by rw [← x2]; exact h2, q2⟩
  refine ⟨⟨by have := S.len; simp only [List.length_append, List.length_cons, List.length_set] at this ⊢; omega, S.fr, fun j t e => ?_, fun j k a u u' p p' h1 h2 h3 h4 => ?_, S.tab, S.fnt⟩, ⟨.refl _, fun _ _ q _ _ => q, fun a ⟨j, u, p, h1, h2⟩ => ?_, fun _ _ q => .inl q, fun j u e => ?_⟩⟩
  · obtain ⟨j', q1, q2⟩ := ρ j
    obtain ⟨x1, x2⟩ := q1 t e
    have q := S.slot j' t x1
    cases t with
    | emp => exact True.intro
    | val u => obtain ⟨w, y1, y2⟩ := q; exact ⟨w, x2.trans y1, y2⟩
    | own u p => obtain ⟨a, o, y1, y2⟩ := q; exact ⟨a, o, x2.trans y1, y2⟩
    | bor k =>
      exfalso
      by_cases c : j < n
      · rcases q2 with ⟨c1, c2⟩ | ⟨_, _, c2⟩ | ⟨c1, _⟩
        · subst c1 c2
          rw [at0] at x1
          cases x1
          rcases hs with ⟨_, z⟩ | ⟨_, z⟩ <;> cases z
        · subst c2
          obtain ⟨⟨_, q⟩, _⟩ := q
          omega
        · omega
      · rw [getR (by omega)] at e
        exact hw _ (List.mem_of_getElem? e) k rfl
  · obtain ⟨j', x1, x2, x3⟩ := old j u p a h1 h3
    obtain ⟨k', y1, y2, y3⟩ := old k u' p' a h2 h4
    have := S.inj j' k' a u u' p p' x1 y1 x2 y2
    omega
  · obtain ⟨j', x1, x2, _⟩ := old j u p a h1 h2
    exact .inl ⟨j', u, p, x1, x2⟩
  · by_cases hj : j < n
    · rw [getL (by omega)] at e
      have c : i ≠ j := fun z => by subst z; rw [e0] at e; cases e; exact np u rfl
      exact ⟨by rw [getL (by omega), getL (by omega), List.getElem?_set_ne c], u, by rw [getL (by omega), List.getElem?_set_ne c]; exact e⟩
    · exfalso
      rw [getR (by omega), he] at e
      by_cases c : j = n
      · subst c
        simp at e
        rcases hs with ⟨_, z⟩ | ⟨_, z⟩ <;> rw [z] at e <;> cases e
      · rw [show j - n = (j - n - 1) + 1 by omega, List.getElem?_cons_succ] at e
        exact hp u (List.mem_of_getElem? e)
theorem parF_free : ∀ {ts : E} {ws : List Slot} {env env' : En}, parF ts ws env = some env' → NoBor ws ∧ ∀ u, Slot.own u true ∉ ws := by
  intro ts ws
  induction ws generalizing ts with
  | nil => intro env env' h; exact ⟨fun s hs => (by cases hs), fun u hu => (by cases hu)⟩
  | cons s r ih =>
    intro env env' h
    cases ts <;> first | (simp [parF] at h; done) | skip
    rename_i t q
    cases t <;> first | (simp [parF] at h; done) | skip
    · rename_i j
      simp only [parF] at h
      unfold keepF at h
      split at h
      · obtain ⟨e1, _, h⟩ := Option.bind_eq_some_iff.mp h
        obtain ⟨h1, h2⟩ := ih h
        exact ⟨fun t ht k z => by
          rcases List.mem_cons.mp ht with rfl | ht
          · cases z
          · exact h1 t ht k z, fun u hu => by
          rcases List.mem_cons.mp hu with z | hu
          · cases z
          · exact h2 u hu⟩
      · cases h
    · rename_i j
      simp only [parF] at h
      obtain ⟨u0, e0, h⟩ := Option.bind_eq_some_iff.mp h
      obtain ⟨e1, _, h⟩ := Option.bind_eq_some_iff.mp h
      obtain ⟨h1, h2⟩ := ih h
      exact ⟨fun t ht k z => by
        rcases List.mem_cons.mp ht with rfl | ht
        · subst z; cases e0
        · exact h1 t ht k z, fun u hu => by
        rcases List.mem_cons.mp hu with z | hu
        · subst z; cases e0
        · exact h2 u hu⟩
def parI : E → Option Nat
  | .tnm i => some i
  | .mov i => some i
  | _ => none
/-- one of several stores -/
theorem par_one {t r : E} {s : Slot} {ws : List Slot} {env env' : En} {vs : List V} {F : Hp} (h : parF (.cons t r) (s :: ws) env = some env') (S : Sim K fa n F H (σ ++ (v :: vs).map some) (env ++ s :: ws)) (hl : σ.length = n) (he : env.length = n) :
    ∃ i F' env1, parI t = some i ∧ parF r ws env1 = some env' ∧ Sim K fa n F' H (σ.set i (some v) ++ vs.map some) (env1 ++ ws) ∧ Stp F H (σ ++ (v :: vs).map some) (env ++ s :: ws) F' H (σ.set i (some v) ++ vs.map some) (env1 ++ ws) ∧ env1.length = n := by
  obtain ⟨f1, f2⟩ := parF_free h
  have g1 : NoBor ws := fun t ht => f1 t (List.mem_cons_of_mem _ ht)
  have g2 : ∀ u, Slot.own u true ∉ ws := fun u hu => f2 u (List.mem_cons_of_mem _ hu)
  cases t <;> first | (simp [parF] at h; done) | skip
  · rename_i i
    simp only [parF] at h
    obtain ⟨env1, e1, hh⟩ := Option.bind_eq_some_iff.mp h
    unfold keepF at e1
    split at e1
    · obtain ⟨S1, st1⟩ := Sim.putM (by simpa using S) hl he (.inr ⟨_, rfl⟩) e1 g1 g2
      refine ⟨i, F, env1, rfl, hh, S1, by simpa using st1, ?_⟩
      obtain ⟨_, _, _, rfl⟩ := put_inv e1
      simp [he]
    · cases e1
  · rename_i i
    simp only [parF] at h
    obtain ⟨u, e0, h⟩ := Option.bind_eq_some_iff.mp h
    obtain ⟨env1, e1, h⟩ := Option.bind_eq_some_iff.mp h
    obtain ⟨F1, S1, st1⟩ := frz_one (i := env.length) S (by simp) e0
    have es : (env ++ s :: ws).set env.length (.val u) = env ++ .val u :: ws := by simp
    rw [es] at S1 st1
    obtain ⟨S2, st2⟩ := Sim.putM (by simpa using S1) hl he (.inl ⟨_, rfl⟩) e1 g1 g2
    refine ⟨i, F1, env1, rfl, h, S2, st1.trans (by simpa using st2), ?_⟩
    obtain ⟨_, _, _, rfl⟩ := put_inv e1
    simp [he]
end

section
variable {K : PySem.W.Frag} {fa : FA} {XR : XRt} {W : WX} {n : Nat} {F F1 H H1 : Hp} {σ σ1 τ : L2.St} {env env1 : En}
def OutS (K : PySem.W.Frag) (fa : FA) (XR : XRt) (W : WX) (n : Nat) (F H : Hp) (σ : L2.St) (env : En) (r : Res (Fl × En)) (D : Ends) : Prop := match r with
  | .ok (.nx, e) => ∀ σ' F' H', Sim K fa n F' H' σ' e → Stp F H σ env F' H' σ' e → e.length = n → D.nx σ' H'
  | .ok (.bk, e) => ∀ σ' F' H', Sim K fa n F' H' σ' e → Stp F H σ env F' H' σ' e → e.length = n → D.bk σ' H'
  | .ok (.ct, e) => ∀ σ' F' H', Sim K fa n F' H' σ' e → Stp F H σ env F' H' σ' e → e.length = n → D.ct σ' H'
  | .ok (.rt w, e) => ∀ σ' v F' H', Sim K fa n F' H' (σ' ++ [some v]) (e ++ [w]) → Stp F H σ env F' H' (σ' ++ [some v]) (e ++ [w]) → e.length = n → D.rt v H'
  | .exc x e => ∀ σ' F' H' cls d, Sim K fa n F' H' σ' e → Stp F H σ env F' H' σ' e → XR F' H' x cls d → e.length = n → W cls d σ' H'
  | .bad => False
theorem OutS.pre {r : Res (Fl × En)} {D : Ends} (h : OutS K fa XR W n F H σ env r D) (st : Stp F H σ env F1 H1 σ1 env1) : OutS K fa XR W n F1 H1 σ1 env1 r D := by
  cases r with
  | ok z =>
    obtain ⟨f, e⟩ := z
    cases f with
    | nx => exact fun σ' F' H' S s l => h σ' F' H' S (st.trans s) l
    | bk => exact fun σ' F' H' S s l => h σ' F' H' S (st.trans s) l
    | ct => exact fun σ' F' H' S s l => h σ' F' H' S (st.trans s) l
    | rt w => exact fun σ' v F' H' S s l => h σ' v F' H' S (st.trans s) l
  | exc x e => exact fun σ' F' H' cls d S s hx l => h σ' F' H' cls d S (st.trans s) hx l
  | bad => exact h
theorem OutS.of {α : Type} {o : Option α} {k : α → Res (Fl × En)} {D : Ends} (h : OutS K fa XR W n F H σ env ((Res.of o).bind k) D) : ∃ a, o = some a ∧ OutS K fa XR W n F H σ env (k a) D := by
  cases o with
  | none => exact h.elim
  | some a => exact ⟨a, rfl, h⟩
theorem OutS.sub {α : Type} {sh : α → List Slot} {r : Res (α × En)} {k : α × En → Res (Fl × En)} {D : Ends} (h : OutS K fa XR W n F H σ env (r.bind k) D) (st : Stp F H σ env F1 H1 σ1 env1) (hn : σ1.length = n) :
    Out K fa XR W n sh F1 H1 σ1 env1 r (fun a vs H' => ∃ F' env', r = .ok (a, env') ∧ Sim K fa n F' H' (σ1 ++ vs.map some) (env' ++ sh a) ∧ Stp F1 H1 σ1 env1 F' H' (σ1 ++ vs.map some) (env' ++ sh a) ∧ env'.length = n) := by
  cases r with
  | ok z => exact fun vs F' H' S' St hl => ⟨F', z.2, rfl, S', St, hl⟩
  | exc x e => exact fun F' H' cls d S s hx => h σ1 F' H' cls d S (st.trans s) hx (S.len.symm.trans hn)
  | bad => exact h
/-- .. of a block's run, then more -/
theorem OutS.seq {r : Res (Fl × En)} {k : Fl × En → Res (Fl × En)} {D D' : Ends} (h : OutS K fa XR W n F H σ env (r.bind k) D)
    (h1 : ∀ e, r = .ok (.nx, e) → ∀ σ' F' H', Sim K fa n F' H' σ' e → Stp F H σ env F' H' σ' e → e.length = n → OutS K fa XR W n F' H' σ' e (k (.nx, e)) D → D'.nx σ' H')
    (h2 : ∀ e, r = .ok (.bk, e) → ∀ σ' F' H', Sim K fa n F' H' σ' e → Stp F H σ env F' H' σ' e → e.length = n → OutS K fa XR W n F' H' σ' e (k (.bk, e)) D → D'.bk σ' H')
    (h3 : ∀ e, r = .ok (.ct, e) → ∀ σ' F' H', Sim K fa n F' H' σ' e → Stp F H σ env F' H' σ' e → e.length = n → OutS K fa XR W n F' H' σ' e (k (.ct, e)) D → D'.ct σ' H')
    (h4 : ∀ w e, k (.rt w, e) = .ok (.rt w, e)) (h5 : D'.rt = D.rt) : OutS K fa XR W n F H σ env r D' := by
  cases r with
  | ok z =>
    obtain ⟨f, e⟩ := z
    cases f with
    | nx => exact fun σ' F' H' S s l => h1 e rfl σ' F' H' S s l (h.pre s)
    | bk => exact fun σ' F' H' S s l => h2 e rfl σ' F' H' S s l (h.pre s)
    | ct => exact fun σ' F' H' S s l => h3 e rfl σ' F' H' S s l (h.pre s)
    | rt w =>
      rw [Res.bind_ok, h4] at h
      intro σ' v F' H' S s l
      rw [h5]
      exact h σ' v F' H' S s l
  | exc x e => exact h
  | bad => exact h
end
def tExS (G : Gx) (fa : FA) (XR : XRt) (W : WX) (X : Cx) (s : S) : TS := fun D σ H => ∃ F env, σ.length = X.N.length ∧ Sim X.K fa X.N.length F H σ env ∧ OutS X.K fa XR W X.N.length F H σ env (exS G s env) D
structure AmbS (T : Tbl) (G : Gx) (fa : FA) (XR : XRt) (k : Nat) (W : WX) (X : Cx) : Prop extends Amb T G fa XR k W X where
  kind : X.env.scope.kind = .function
  fnc : ∀ x, X.env.scope.names.lookup x = some .cell → X.fn x = true
  pass : PassesOwn (model X.prog X.w) X.A X.env X.xe

def parIs : E → Option (List Nat)
  | .nil => some []
  | .cons t r => (parI t).bind fun i => (parIs r).map (i :: ·)
  | _ => none
def parB (N : List Str) (sc : Scope) : List Nat → List Expr → Bool
  | [], [] => true
  | i :: r, .Name x _ :: xs => decide (N[i]? = some x) && decide (sc.names.lookup x = some .local) && !(r.contains i) && parB N sc r xs
  | _, _ => false
def namesOf : List Expr → List Str
  | .Name x _ :: r => x :: namesOf r
  | _ => []
def few : List Nat → Bool
  | [_, _] => true
  | [_, _, _] => true
  | _ => false
/-- the parts of statements -/
def stA : Stmt → Option (Expr × Expr)
  | .Assign [t] v _ => some (t, v)
  | _ => none
def stX : Stmt → Option (Expr × Nat)
  | .Expr v p => some (v, p.line)
  | _ => none
def stR : Stmt → Option (Option Expr)
  | .Return v _ => some v
  | _ => none
def stZ : Stmt → Option Str
  | .Raise (some (.Call (.Name x _) [.Constant (.str _) _ _] [] _)) none _ => some x
  | _ => none
def stI : Stmt → Option (Expr × List Stmt × List Stmt)
  | .If c a b _ => some (c, a, b)
  | _ => none
def stF : Stmt → Option (Expr × Expr × List Stmt)
  | .For t i b [] _ => some (t, i, b)
  | _ => none
def stW : Stmt → Option (Expr × List Stmt)
  | .While c b [] _ => some (c, b)
  | _ => none
def stP : Stmt → Bool
  | .Pass _ => true
  | _ => false
def stB : Stmt → Bool
  | .Break _ => true
  | _ => false
def stC : Stmt → Bool
  | .Continue _ => true
  | _ => false
def exN : Expr → Option (Str × Pos)
  | .Name x p => some (x, p)
  | _ => none
def exT : Expr → Option (List Expr)
  | .Tuple xs _ _ => some xs
  | _ => none
/-- x[y] -/
def exS1 : Expr → Option (Str × Expr)
  | .Subscript (.Name x _) y _ => some (x, y)
  | _ => none
def exS2 : List Expr → Option (Expr × Expr)
  | [a, b] => some (a, b)
  | _ => none
/-- x.append(v) -/
def exA : Expr → Option (Str × Expr)
  | .Call (.Attribute (.Name x _) m ap) [v] [] cp => if decide (m = "append") && (ap.endLine == cp.line) then some (x, v) else none
  | _ => none
def onO {α : Type} (o : Option α) (f : α → Bool) : Bool := match o with
  | some a => f a
  | none => false
theorem onO_of {α : Type} {o : Option α} {f : α → Bool} (h : onO o f = true) : ∃ a, o = some a ∧ f a = true := by
  cases o with
  | none => cases h
  | some a => exact ⟨a, rfl, h⟩
theorem stA_of {st : Stmt} {t v : Expr} (h : stA st = some (t, v)) : ∃ p, st = .Assign [t] v p := by
  unfold stA at h; split at h <;> cases h; exact ⟨_, rfl⟩
theorem stX_of {st : Stmt} {v : Expr} {l : Nat} (h : stX st = some (v, l)) : ∃ p, st = .Expr v p := by
  unfold stX at h; split at h <;> cases h; exact ⟨_, rfl⟩
theorem stR_of {st : Stmt} {v : Option Expr} (h : stR st = some v) : ∃ p, st = .Return v p := by
  unfold stR at h; split at h <;> cases h; exact ⟨_, rfl⟩
theorem stZ_of {st : Stmt} {x : Str} (h : stZ st = some x) : ∃ p1 m j p2 p3 p4, st = .Raise (some (.Call (.Name x p1) [.Constant (.str m) j p2] [] p3)) none p4 := by
  unfold stZ at h; split at h <;> cases h; exact ⟨_, _, _, _, _, _, rfl⟩
theorem stI_of {st : Stmt} {c : Expr} {a b : List Stmt} (h : stI st = some (c, a, b)) : ∃ p, st = .If c a b p := by
  unfold stI at h; split at h <;> cases h; exact ⟨_, rfl⟩
theorem stF_of {st : Stmt} {t i : Expr} {b : List Stmt} (h : stF st = some (t, i, b)) : ∃ p, st = .For t i b [] p := by
  unfold stF at h; split at h <;> cases h; exact ⟨_, rfl⟩
theorem stW_of {st : Stmt} {c : Expr} {b : List Stmt} (h : stW st = some (c, b)) : ∃ p, st = .While c b [] p := by
  unfold stW at h; split at h <;> cases h; exact ⟨_, rfl⟩
theorem stP_of {st : Stmt} (h : stP st = true) : ∃ p, st = .Pass p := by
  unfold stP at h; split at h <;> cases h; exact ⟨_, rfl⟩
theorem stB_of {st : Stmt} (h : stB st = true) : ∃ p, st = .Break p := by
  unfold stB at h; split at h <;> cases h; exact ⟨_, rfl⟩
theorem stC_of {st : Stmt} (h : stC st = true) : ∃ p, st = .Continue p := by
  unfold stC at h; split at h <;> cases h; exact ⟨_, rfl⟩
theorem exN_of {e : Expr} {x : Str} {p : Pos} (h : exN e = some (x, p)) : e = .Name x p := by
  unfold exN at h; split at h <;> cases h; rfl
theorem exT_of {e : Expr} {xs : List Expr} (h : exT e = some xs) : ∃ k p, e = .Tuple xs k p := by
  unfold exT at h; split at h <;> cases h; exact ⟨_, _, rfl⟩
theorem exS1_of {e : Expr} {x : Str} {y : Expr} (h : exS1 e = some (x, y)) : ∃ q p, e = .Subscript (.Name x q) y p := by
  unfold exS1 at h; split at h <;> cases h; exact ⟨_, _, rfl⟩
theorem exS2_of {l : List Expr} {a b : Expr} (h : exS2 l = some (a, b)) : l = [a, b] := by
  unfold exS2 at h; split at h <;> cases h; rfl
theorem exA_of {e v : Expr} {x : Str} (h : exA e = some (x, v)) : ∃ q ap cp, e = .Call (.Attribute (.Name x q) "append" ap) [v] [] cp ∧ (ap.endLine == cp.line) = true := by
  unfold exA at h
  split at h
  · split at h
    · rename_i c
      simp only [Bool.and_eq_true, decide_eq_true_eq] at c
      cases h
      obtain ⟨rfl, c⟩ := c
      exact ⟨_, _, _, rfl, c⟩
    · cases h
  · cases h
section
variable (T : Tbl) (N : List Str)
mutual
def chkS : S → Scope → Stmt → Bool
  | .pas, _, st => stP st
  | .brk, _, st => stB st
  | .cnt, _, st => stC st
  | .set i e, sc, st => onO (stA st) fun (t, v) => onO (exN t) fun (x, p) => decide (N[i]? = some x) && locB sc x && onO (asgB sc x p v) (fun b => !b || !T.hot) && chkE T N e sc v
  | .own i e, sc, st => onO (stA st) fun (t, v) => onO (exN t) fun (x, p) => decide (N[i]? = some x) && locB sc x && onO (asgB sc x p v) (fun b => !b || !T.hot) && chkE T N e sc v
  | .unp tg e, sc, st => onO (stA st) fun (t, v) => onO (exT t) fun ts => chkG N sc tg t && chkE T N e sc v && (match exT v with
    | some vs => decide (swB sc ts vs = some none)
    | none => true)
  | .par ts es, sc, st => onO (stA st) fun (t, v) => onO (exT t) fun xs => onO (exT v) fun vs => onO (parIs ts) fun is =>
    few is && parB N sc is xs && decide (swB sc xs vs = some (some (namesOf xs))) && chkL T N es sc vs && !T.hot
  | .par2 i k j l a b, sc, st => onO (stA st) fun (t, v) => onO (exT t) fun xs => onO (exT v) fun vs => onO (exS2 xs) fun (s1, s2) => onO (exS1 s1) fun (x, y) => onO (exS1 s2) fun (x', y') =>
    nameB N sc i x && nameB N sc j x' && chkE T N k sc y && plainB y && chkE T N l sc y' && plainB y' && decide (swB sc xs vs = some none) && chkL T N (.cons a (.cons b .nil)) sc vs && !T.hot
  | .sub i k e, sc, st => onO (stA st) fun (t, v) => onO (exS1 t) fun (x, y) => nameB N sc i x && chkE T N k sc y && plainB y && chkE T N e sc v
  | .app i e, sc, st => onO (stX st) fun (v, _) => onO (exA v) fun (x, a) => nameB N sc i x && chkE T N e sc a && plainB a
  | .exp e, sc, st => onO (stX st) fun (v, _) => noComp v && chkE T N e sc v
  | .ret e, sc, st => onO (stR st) fun v => onO v fun v => chkE T N e sc v
  | .retn, _, st => onO (stR st) fun v => v.isNone
  | .rse c, sc, st => onO (stZ st) fun x => !T.hot && (match T.exc[c]? with
    | some y => globB sc x y
    | none => false)
  | .iff c a b, sc, st => onO (stI st) fun (c', a', b') => chkE T N c sc c' && chkB a sc a' && chkB b sc b'
  | .for_ tg it b, sc, st => onO (stF st) fun (tg', it', b') => chkG N sc tg tg' && chkI T N it sc tg' it' && plainB it' && chkB b sc b' && !T.hot
  | .whl c b, sc, st => onO (stW st) fun (c', b') => chkE T N c sc c' && chkB b sc b' && !T.hot
  | .nil, _, _ => false
  | .seq _ _, _, _ => false
def chkB : S → Scope → List Stmt → Bool
  | .nil, _, [] => true
  | .seq a r, sc, st :: sts => chkS a sc st && chkB r sc sts
  | _, _, _ => false
end
end
end PF
end
section
set_option Elab.async false
set_option autoImplicit false
set_option linter.all false
set_option maxRecDepth 100000
namespace PF
open PySem PySem.Spec PyProof.Rows L2

theorem PS.imp {X : Cx} {e : Stmt} {t t' : TS} (h : PS X e t) (i : ∀ D σ H, t' D σ H → t D σ H) : PS X e t' := ⟨fun pins s σ H D I q => h.run pins s σ H D I (i D σ H q)⟩
theorem PSs.imp {X : Cx} {e : List Stmt} {t t' : TS} (h : PSs X e t) (i : ∀ D σ H, t' D σ H → t D σ H) : PSs X e t' := ⟨fun pins s σ H D I q => h.run pins s σ H D I (i D σ H q)⟩
section
variable {T : Tbl} {G : Gx} {fa : FA} {XR : XRt} {k : Nat} {W : WX} {X : Cx} {σ : L2.St} {H : Hp} {F : Hp} {env : En} {D : Ends}
def OkS (T : Tbl) (G : Gx) (fa : FA) (XR : XRt) (k : Nat) (s : S) : Prop := ∀ (X : Cx) (W : WX), AmbS T G fa XR k W X → ∀ st, chkS T X.N s X.env.scope st = true → PS X st (tExS G fa XR W X s)
def OkB (T : Tbl) (G : Gx) (fa : FA) (XR : XRt) (k : Nat) (s : S) : Prop := ∀ (X : Cx) (W : WX), AmbS T G fa XR k W X → ∀ sts, chkB T X.N s X.env.scope sts = true → PSs X sts (tExS G fa XR W X s)
theorem evs {a : E} {kk : Slot × En → Res (Fl × En)} (hn : σ.length = X.N.length) (S : Sim X.K fa X.N.length F H σ env) (h : OutS X.K fa XR W X.N.length F H σ env ((evE G a env).bind kk) D) :
    tEv G fa XR W X a σ H fun x H1 => ∃ F1 env1 p, evE G a env = .ok (p, env1) ∧ Sim X.K fa X.N.length F1 H1 (σ ++ [some x]) (env1 ++ [p]) ∧ Stp F H σ env F1 H1 (σ ++ [some x]) (env1 ++ [p]) ∧ env1.length = X.N.length := by
  refine ⟨F, env, hn, S, (OutS.sub (sh := fun w => [w]) h (.refl _ _ _ _) hn).imp fun p vs H1 ⟨F1, env1, e1, S1, st1, hl⟩ => ?_⟩
  have e := S1.len
  have := S.len
  simp only [List.length_append, List.length_map, List.length_singleton] at e
  obtain ⟨v, rfl⟩ : ∃ v, vs = [v] := List.length_eq_one_iff.mp (by omega)
  exact ⟨v, rfl, F1, env1, p, e1, S1, st1, hl⟩
theorem freeze1 {F1 H1 : Hp} {env1 : En} {v : V} {p : Slot} {u : U} {n : Nat} {K : PySem.W.Frag} (S : Sim K fa n F1 H1 (σ ++ [some v]) (env1 ++ [p])) (hl : σ.length = env1.length) (h : frz p = some u) :
    ∃ F2, Sim K fa n F2 H1 (σ ++ [some v]) (env1 ++ [.val u]) ∧ Stp F1 H1 (σ ++ [some v]) (env1 ++ [p]) F2 H1 (σ ++ [some v]) (env1 ++ [.val u]) ∧ Rep K fa F2 v u := by
  obtain ⟨F2, S2, st2, r⟩ := freeze_side (vs := [v]) (us := [u]) (by simpa using S) hl (by simp [frzs, h])
  cases r with
  | cons r _ => exact ⟨F2, by simpa using S2, by simpa using st2, r⟩
theorem names_hf (A : AmbS T G fa XR k W X) {x : Str} (h : locB X.env.scope x = true) : Loc X.env.scope x ∧ (X.fn x = true ∨ X.env.scope.names.lookup x = some .local) := by
  have hl := locB_of h
  exact ⟨hl, hl.elim .inr fun z => .inl (A.fnc _ z)⟩
/-- name = e -/
theorem ps_name (A : AmbS T G fa XR k W X) {i : Nat} {x : Str} {p pos : Pos} {v : Expr} {e : E} (hN : X.N[i]? = some x) (hl : locB X.env.scope x = true) (hb : onO (asgB X.env.scope x p v) (fun b => !b || !T.hot) = true) (hc : chkE T X.N e X.env.scope v = true) :
    PS X (.Assign [.Name x p] v pos) (tAsg (tEv G fa XR W X e) (gName i)) := by
  obtain ⟨b, hb, hq⟩ := onO_of hb
  obtain ⟨l1, l2⟩ := names_hf A hl
  cases b with
  | false => exact ps_set A.nd hN l1 ((ok_all e).e X W A.toAmb v hc) (asg_ok A.kind hb) l2
  | true =>
    cases v <;> first | (cases hb; done) | skip
    rename_i elt gs scope vp
    have hy : X.env.scope.names.lookup x = some .local := by
      simp only [asgB, Option.some.injEq, Bool.and_eq_true, beq_iff_eq] at hb
      exact hb.1.1
    cases e <;> first | (simp [chkE] at hc; done) | skip
    rename_i vs tg it c el
    have h0 : T.hot = false := by simpa using hq
    obtain ⟨tg', it', ifs, rfl, P⟩ := comp_ok (pn := []) A.toAmb (fun z => by rw [h0] at z; cases z) (ok_all it).i (ok_all c).t (ok_all el).e hc
    have q := ps_setLc (i := i) (y := x) (py := p) (spos := pos) (A.calm h0) A.nd hN hy (asg_ok A.kind hb) P.it P.blk (fun s H C cl fp => P.g s H C cl fp) (fun s H C cl fp => P.t s H C cl fp) (fun s H C cl fp => P.e s H C cl fp) P.s
    rw [own_map] at q
    exact PS.imp q fun D σ H q0 => cmp_read P.lt P.ts q0
theorem okS_set {i : Nat} {e : E} : OkS T G fa XR k (.set i e) := fun X W A st hc => by
  rw [chkS] at hc
  replace hc := onO_of hc
  obtain ⟨⟨t, v⟩, q1, hc⟩ := hc
  obtain ⟨pos, rfl⟩ := stA_of q1
  replace hc := onO_of hc
  obtain ⟨⟨x, p⟩, q2, hc⟩ := hc
  cases exN_of q2
  simp only [Bool.and_eq_true, decide_eq_true_eq] at hc
  obtain ⟨⟨⟨h1, h2⟩, h3⟩, h4⟩ := hc
  refine PS.imp (ps_name A h1 h2 h3 h4) fun D σ H ⟨F, env, hn, S, o⟩ => ?_
  simp only [exS] at o
  obtain ⟨F0, env0, h0, S0, o0⟩ := evs hn S o
  refine ⟨F0, env0, h0, S0, o0.imp fun _ vs H1 ⟨v, ev, F1, env1, p, e1, S1, st1, l1⟩ => ⟨v, ev, ?_⟩⟩
  rw [e1, Res.bind_ok] at o
  obtain ⟨u, e2, o⟩ := OutS.of o
  obtain ⟨env2, e3, o⟩ := OutS.of o
  obtain ⟨F2, S2, st2, r⟩ := freeze1 S1 (by omega) e2
  have hln := S.len
  obtain ⟨S3, st3⟩ := S2.put (by omega) (.inl ⟨u, rfl⟩) e3 (nb0 (S2.head (by omega) (by omega)) l1)
  obtain ⟨_, _, _, rfl⟩ := put_inv e3
  exact o _ _ _ S3 (st1.trans (st2.trans st3)) (by simp [l1])
theorem keepF_of {env env' : En} {i : Nat} {s : Slot} (h : keepF env i s = some env') : ∃ u, s = .own u false ∧ PF.put env i s = some env' := by
  unfold keepF at h
  split at h
  · exact ⟨_, rfl, h⟩
  · cases h
theorem okS_own {i : Nat} {e : E} : OkS T G fa XR k (.own i e) := fun X W A st hc => by
  rw [chkS] at hc
  replace hc := onO_of hc
  obtain ⟨⟨t, v⟩, q1, hc⟩ := hc
  obtain ⟨pos, rfl⟩ := stA_of q1
  replace hc := onO_of hc
  obtain ⟨⟨x, p⟩, q2, hc⟩ := hc
  cases exN_of q2
  simp only [Bool.and_eq_true, decide_eq_true_eq] at hc
  obtain ⟨⟨⟨h1, h2⟩, h3⟩, h4⟩ := hc
  refine PS.imp (ps_name A h1 h2 h3 h4) fun D σ H ⟨F, env, hn, S, o⟩ => ?_
  simp only [exS] at o
  obtain ⟨F0, env0, h0, S0, o0⟩ := evs hn S o
  refine ⟨F0, env0, h0, S0, o0.imp fun _ vs H1 ⟨v, ev, F1, env1, p, e1, S1, st1, l1⟩ => ⟨v, ev, ?_⟩⟩
  rw [e1, Res.bind_ok] at o
  obtain ⟨env2, e3, o⟩ := OutS.of o
  have hln := S.len
  obtain ⟨u, rfl, e4⟩ := keepF_of e3
  obtain ⟨S3, st3⟩ := S1.put (by omega) (.inr ⟨_, rfl⟩) e4 (nb0 (S1.head (by omega) (by omega)) l1)
  obtain ⟨_, _, _, rfl⟩ := put_inv e4
  exact o _ _ _ S3 (st1.trans st3) (by simp [l1])
theorem okS_unp {tg e : E} : OkS T G fa XR k (.unp tg e) := fun X W A st hc => by
  rw [chkS] at hc
  replace hc := onO_of hc
  obtain ⟨⟨t, v⟩, q1, hc⟩ := hc
  obtain ⟨pos, rfl⟩ := stA_of q1
  replace hc := onO_of hc
  obtain ⟨xs, q2, hc⟩ := hc
  obtain ⟨kk, tp, rfl⟩ := exT_of q2
  simp only [Bool.and_eq_true] at hc
  obtain ⟨⟨h2, h3⟩, h4⟩ := hc
  have hw : swappedStores [.Tuple xs kk tp] v X.env = pure none := by
    cases e : exT v with
    | none => exact sw_val (by cases v <;> first | rfl | (cases e))
    | some vs =>
      rw [e] at h4
      obtain ⟨k2, p2, rfl⟩ := exT_of e
      simp only [decide_eq_true_eq] at h4
      exact sw_tup A.kind h4
  refine PS.imp (ps_asg ((ok_all e).e X W A.toAmb v h3) (pg_of (fa := fa) A.toAmb.qt A.nd (fun x hx => names_hf A hx) tg h2) (sw_tg (t := .Tuple xs kk tp) (v := v) (l := pos.line) (env := X.env) rfl) hw rfl) fun D σ H ⟨F, env, hn, S, o⟩ => ?_
  simp only [exS] at o
  obtain ⟨F0, env0, h0, S0, o0⟩ := evs hn S o
  refine ⟨F0, env0, h0, S0, o0.imp fun _ vs H1 ⟨v, ev, F1, env1, p, e1, S1, st1, l1⟩ => ⟨v, ev, ?_⟩⟩
  rw [e1, Res.bind_ok] at o
  obtain ⟨u, e2, o⟩ := OutS.of o
  obtain ⟨env2, e3, o⟩ := OutS.of o
  obtain ⟨F2, S2, st2, r⟩ := freeze1 S1 (by omega) e2
  have hln := S.len
  refine ⟨F2, env1, [], [], u, env2, hn, l1, by simpa using S2.head (by omega) (by omega), fun s hs => (by cases hs), r, e3, fun σ' S3 st3 hn3 he3 _ => ?_⟩
  simp only [List.append_nil] at S3 st3
  exact o _ _ _ S3 (((st1.trans st2).head (by omega) (by omega)).trans st3) he3
theorem okS_exp {e : E} : OkS T G fa XR k (.exp e) := fun X W A st hc => by
  rw [chkS] at hc
  replace hc := onO_of hc
  obtain ⟨⟨v, ln⟩, q1, hc⟩ := hc
  obtain ⟨pos, rfl⟩ := stX_of q1
  simp only [Bool.and_eq_true] at hc
  refine PS.imp (ps_expr ((ok_all e).e X W A.toAmb v hc.2) (sw_drop hc.1)) fun D σ H ⟨F, env, hn, S, o⟩ => ?_
  simp only [exS] at o
  obtain ⟨F0, env0, h0, S0, o0⟩ := evs hn S o
  refine ⟨F0, env0, h0, S0, o0.imp fun _ vs H1 ⟨v, ev, F1, env1, p, e1, S1, st1, l1⟩ => ⟨v, ev, ?_⟩⟩
  rw [e1, Res.bind_ok] at o
  have hln := S.len
  exact o _ _ _ (S1.head (by omega) (by omega)) (st1.head (by omega) (by omega)) l1
theorem okS_ret {e : E} : OkS T G fa XR k (.ret e) := fun X W A st hc => by
  rw [chkS] at hc
  replace hc := onO_of hc
  obtain ⟨v, q1, hc⟩ := hc
  obtain ⟨pos, rfl⟩ := stR_of q1
  replace hc := onO_of hc
  obtain ⟨v, rfl, hc⟩ := hc
  refine PS.imp (ps_ret ((ok_all e).e X W A.toAmb _ hc)) fun D σ H ⟨F, env, hn, S, o⟩ => ?_
  simp only [exS] at o
  obtain ⟨F0, env0, h0, S0, o0⟩ := evs hn S o
  refine ⟨F0, env0, h0, S0, o0.imp fun _ vs H1 ⟨v, ev, F1, env1, p, e1, S1, st1, l1⟩ => ⟨v, ev, ?_⟩⟩
  rw [e1, Res.bind_ok] at o
  cases p <;> first | exact o.elim | exact o _ _ _ _ S1 st1 l1
theorem okS_retn : OkS T G fa XR k .retn := fun X W A st hc => by
  rw [chkS] at hc
  replace hc := onO_of hc
  obtain ⟨v, q1, hc⟩ := hc
  obtain ⟨pos, rfl⟩ := stR_of q1
  cases v <;> first | (cases hc; done) | skip
  refine PS.imp ps_retN fun D σ H ⟨F, env, hn, S, o⟩ => ?_
  simp only [exS] at o
  obtain ⟨S1, st1⟩ := (OpPost.val S.fr (Rep.non (K := X.K) (fa := fa))).sim S
  have := S.len
  exact o _ _ _ _ S1 st1 (by omega)
theorem okS_rse {c : Nat} : OkS T G fa XR k (.rse c) := fun X W A st hc => by
  simp only [chkS] at hc
  obtain ⟨x, h1, hc⟩ := onO_of hc
  obtain ⟨p1, m, j, p2, p3, p4, rfl⟩ := stZ_of h1
  obtain ⟨h0, hc⟩ := (Bool.and_eq_true _ _).mp hc
  have h0 : T.hot = false := by simpa using h0
  split at hc
  · rename_i y hy
    obtain ⟨rfl, g1, g2, g3⟩ := globB_of hc
    obtain ⟨C, q1, q2, q3, q4, q5⟩ := A.exc c _ hy
    refine PS.imp (L2N.ps_raise (A.calm h0) A.takes (L2N.pmk_own PySem.F.excBase_ValueError q3 q2 q4 q5 g1 g2)) fun D σ H ⟨F, env, hn, S, o⟩ => ?_
    simp only [exS] at o
    exact o σ F H (.ref C) none S (.refl _ _ _ _) (A.xr F H c C q1) (S.len.symm.trans hn)
  · cases hc
theorem okS_pas : OkS T G fa XR k .pas := fun X W A st hc => by
  rw [chkS] at hc
  obtain ⟨pos, rfl⟩ := stP_of hc
  refine PS.imp ps_pass fun D σ H ⟨F, env, hn, S, o⟩ => ?_
  have := S.len
  exact o _ _ _ S (.refl _ _ _ _) (by omega)
theorem okS_brk : OkS T G fa XR k .brk := fun X W A st hc => by
  rw [chkS] at hc
  obtain ⟨pos, rfl⟩ := stB_of hc
  refine PS.imp ps_break fun D σ H ⟨F, env, hn, S, o⟩ => ?_
  have := S.len
  exact o _ _ _ S (.refl _ _ _ _) (by omega)
theorem okS_cnt : OkS T G fa XR k .cnt := fun X W A st hc => by
  rw [chkS] at hc
  obtain ⟨pos, rfl⟩ := stC_of hc
  refine PS.imp ps_continue fun D σ H ⟨F, env, hn, S, o⟩ => ?_
  have := S.len
  exact o _ _ _ S (.refl _ _ _ _) (by omega)
/-- a test, then more -/
theorem evts {c : E} {kk : Bool × En → Res (Fl × En)} (hn : σ.length = X.N.length) (S : Sim X.K fa X.N.length F H σ env) (h : OutS X.K fa XR W X.N.length F H σ env ((evT G c env).bind kk) D) :
    tEvT G fa XR W X c σ H fun b H1 => ∃ F1 env1, evT G c env = .ok (b, env1) ∧ Sim X.K fa X.N.length F1 H1 σ env1 ∧ Stp F H σ env F1 H1 σ env1 ∧ env1.length = X.N.length := by
  refine ⟨F, env, hn, S, (OutS.sub (sh := fun _ => []) h (.refl _ _ _ _) hn).imp fun b vs H1 ⟨F1, env1, e1, S1, st1, hl⟩ => ?_⟩
  cases bare S1 (by omega)
  simp only [List.map_nil, List.append_nil] at S1 st1
  exact ⟨F1, env1, e1, S1, st1, hl⟩
theorem cond_evT {c : E} {N : List Str} {sc : Scope} {ex : Expr} (h : chkE T N c sc ex = true) : condF c (evE G c) = evT G c := by
  funext env
  cases c <;> first | rfl | (cases ex <;> simp [chkE] at h)
theorem okS_iff {c : E} {a b : S} (ha : OkB T G fa XR k a) (hb : OkB T G fa XR k b) : OkS T G fa XR k (.iff c a b) := fun X W A st hc => by
  rw [chkS] at hc
  replace hc := onO_of hc
  obtain ⟨⟨c', a', b'⟩, q1, hc⟩ := hc
  obtain ⟨pos, rfl⟩ := stI_of q1
  simp only [Bool.and_eq_true] at hc
  refine PS.imp (ps_if ((ok_all c).t X W A.toAmb _ hc.1.1) (ha X W A _ hc.1.2) (hb X W A _ hc.2)) fun D σ H ⟨F, env, hn, S, o⟩ => ?_
  simp only [exS, cond_evT hc.1.1] at o
  obtain ⟨F0, env0, h0, S0, o0⟩ := evts hn S o
  refine ⟨F0, env0, h0, S0, o0.imp fun b _ H1 ⟨F1, env1, e1, S1, st1, l1⟩ => ?_⟩
  rw [e1, Res.bind_ok] at o
  cases b with
  | true => exact ⟨F1, env1, hn, S1, OutS.pre (by simpa using o) st1⟩
  | false => exact ⟨F1, env1, hn, S1, OutS.pre (by simpa using o) st1⟩
theorem okB_nil : OkB T G fa XR k .nil := fun X W A sts hc => by
  cases sts with
  | cons _ _ => simp [chkB] at hc
  | nil =>
    refine PSs.imp pss_nil fun D σ H ⟨F, env, hn, S, o⟩ => ?_
    have := S.len
    exact o _ _ _ S (.refl _ _ _ _) (by omega)
theorem okB_seq {a r : S} (ha : OkS T G fa XR k a) (hr : OkB T G fa XR k r) : OkB T G fa XR k (.seq a r) := fun X W A sts hc => by
  cases sts with
  | nil => simp [chkB] at hc
  | cons st sts =>
    simp only [chkB, Bool.and_eq_true] at hc
    refine PSs.imp (pss_cons (ha X W A st hc.1) (hr X W A sts hc.2)) fun D σ H ⟨F, env, hn, S, o⟩ => ?_
    simp only [exS] at o
    refine ⟨F, env, hn, S, OutS.seq o (fun e _ σ' F' H' S' st' l' o' => ?_) (fun e _ σ' F' H' S' st' l' o' => o' σ' F' H' S' (.refl _ _ _ _) l') (fun e _ σ' F' H' S' st' l' o' => o' σ' F' H' S' (.refl _ _ _ _) l') (fun _ _ => rfl) rfl⟩
    have := S'.len
    exact ⟨F', e, by omega, S', o'⟩
theorem okS_whl {c : E} {b : S} (hb : OkB T G fa XR k b) : OkS T G fa XR k (.whl c b) := fun X W A st hc => by
  rw [chkS] at hc
  replace hc := onO_of hc
  obtain ⟨⟨c', b'⟩, q1, hc⟩ := hc
  obtain ⟨pos, rfl⟩ := stW_of q1
  simp only [Bool.and_eq_true] at hc
  refine PS.imp (ps_while A.pass ((ok_all c).t X W A.toAmb _ hc.1.1) (hb X W A _ hc.1.2)) fun D σ H ⟨F, env, hn, S, o⟩ => ?_
  simp only [exS, cond_evT hc.1.1] at o
  refine ⟨fun m σ H => ∃ F env, σ.length = X.N.length ∧ Sim X.K fa X.N.length F H σ env ∧ OutS X.K fa XR W X.N.length F H σ env (whlGo (evT G c) (exS G b) m env) D, ⟨fuel, F, env, hn, S, o⟩, ?_⟩
  rintro m σ H ⟨F, env, hn, S, o⟩
  cases m with
  | zero => exact o.elim
  | succ m =>
    simp only [whlGo] at o
    obtain ⟨F0, env0, h0, S0, o0⟩ := evts hn S o
    refine ⟨F0, env0, h0, S0, o0.imp fun b _ H1 ⟨F1, env1, e1, S1, st1, l1⟩ => ?_⟩
    rw [e1, Res.bind_ok] at o
    cases b with
    | false =>
      simp only [Bool.false_eq_true, if_false] at o ⊢
      exact o _ _ _ S1 st1 l1
    | true =>
      simp only [if_true] at o ⊢
      refine ⟨fun σ H => ∃ F env, σ.length = X.N.length ∧ Sim X.K fa X.N.length F H σ env ∧ OutS X.K fa XR W X.N.length F H σ env (whlGo (evT G c) (exS G b) m env) D, fun σ' H' q => ⟨m, Nat.lt_succ_self m, q⟩, F1, env1, hn, S1, ?_⟩
      refine OutS.seq (OutS.pre o st1) (fun e _ σ' F' H' S' st' l' o' => ?_) (fun e _ σ' F' H' S' st' l' o' => o' σ' F' H' S' (.refl _ _ _ _) l') (fun e _ σ' F' H' S' st' l' o' => ?_) (fun _ _ => rfl) rfl
      · have := S'.len
        exact ⟨F', e, by omega, S', o'⟩
      · have := S'.len
        exact ⟨F', e, by omega, S', o'⟩
theorem okS_for {tg it : E} {b : S} (hb : OkB T G fa XR k b) : OkS T G fa XR k (.for_ tg it b) := fun X W A st hc => by
  rw [chkS] at hc
  replace hc := onO_of hc
  obtain ⟨⟨tg', it', b'⟩, q1, hc⟩ := hc
  obtain ⟨pos, rfl⟩ := stF_of q1
  simp only [Bool.and_eq_true, Bool.not_eq_true'] at hc
  obtain ⟨⟨⟨⟨h1, h2⟩, h3⟩, h4⟩, h0⟩ := hc
  refine PS.imp (ps_for A.pass (A.calm h0) ((ok_all it).i X W A.toAmb tg' it' h2).1 (pg_of (fa := fa) A.toAmb.qt A.nd (fun x hx => names_hf A hx) tg h1) (hb X W A _ h4) (fold_plain h3)) fun D σ H ⟨F, env, hn, S, o⟩ => ?_
  simp only [exS] at o
  refine ⟨F, env, hn, S, ?_⟩
  cases ei : evI G it env with
  | bad => rw [ei] at o; exact o.elim
  | exc x e => rw [ei] at o; exact fun F' H' cls d S st hx => o σ F' H' cls d S st hx (S.len.symm.trans hn)
  | ok z =>
    obtain ⟨xs, env1⟩ := z
    rw [ei, Res.bind_ok] at o
    intro J F1 H1 S1 st1 l1 hJ
    have o1 := OutS.pre o st1
    refine ⟨fun i m σ H => m = xs.length - i ∧ i ≤ xs.length ∧ ∃ F2 env, σ.length = X.N.length ∧ env.length = X.N.length ∧ Sim X.K fa X.N.length F2 H σ env ∧ Sub F1 F2 ∧
      OutS X.K fa XR W X.N.length F2 H σ env (forGo (fun x env => (Res.of (storeU tg x env)).bind fun env => exS G b env) (xs.drop i) env) D, ⟨xs.length, by simp, Nat.zero_le _, F1, env1, hn, l1, S1, .refl _, o1⟩, ?_⟩
    rintro i m σ H ⟨rfl, hi, F2, env, hn, hl, S2, sub, o⟩
    have hs := hJ i F2 H sub S2.fr
    by_cases hlt : i < xs.length
    · obtain ⟨go, yl⟩ := hs.1 xs[i] (List.getElem?_eq_getElem hlt)
      refine .inr ⟨go, fun σ H => i + 1 ≤ xs.length ∧ ∃ F2 env, σ.length = X.N.length ∧ env.length = X.N.length ∧ Sim X.K fa X.N.length F2 H σ env ∧ Sub F1 F2 ∧
        OutS X.K fa XR W X.N.length F2 H σ env (forGo (fun x env => (Res.of (storeU tg x env)).bind fun env => exS G b env) (xs.drop (i + 1)) env) D, fun σ' H' p => ⟨xs.length - (i + 1), by omega, rfl, p⟩, fun xv H' y => ?_⟩
      obtain ⟨F3, P⟩ := yl xv H' y
      rw [List.drop_eq_getElem_cons hlt] at o
      simp only [forGo] at o
      obtain ⟨S3, st3⟩ := P.sim S2
      have hln := S2.len
      have S3' := S3.head (by omega) (by omega)
      have st3' := st3.head (by omega) (Nat.le_refl _)
      cases es : storeU tg xs[i] env with
      | none => rw [es] at o; exact o.elim
      | some env2 =>
        rw [es] at o
        simp only [Res.of_some, Res.bind_ok] at o
        refine ⟨F3, env, [], [], xs[i], env2, hn, hl, by simpa using S3', fun s hs => (by cases hs), P.rep, es, fun σ4 S4 st4 hn4 he4 _ => ?_⟩
        simp only [List.append_nil] at S4 st4
        refine ⟨F3, env2, hn4, S4, ?_⟩
        refine OutS.seq (OutS.pre o (st3'.trans st4)) (fun e _ σ' F' H' S' st' l' o' => ?_) (fun e _ σ' F' H' S' st' l' o' => o' σ' F' H' S' (.refl _ _ _ _) l') (fun e _ σ' F' H' S' st' l' o' => ?_) (fun _ _ => rfl) rfl
        · have := S'.len
          exact ⟨hlt, F', e, by omega, l', S', (sub.trans P.ext).trans st'.ext, o'⟩
        · have := S'.len
          exact ⟨hlt, F', e, by omega, l', S', (sub.trans P.ext).trans st'.ext, o'⟩
    · have hi' : i = xs.length := by omega
      subst hi'
      rw [List.drop_length] at o
      simp only [forGo] at o
      exact .inl ⟨hs.2 (Nat.le_refl _), o _ _ _ S2 (.refl _ _ _ _) hl⟩
end
end PF
end
section
set_option Elab.async false
set_option autoImplicit false
set_option linter.all false
set_option maxRecDepth 100000
namespace PF
open PySem PySem.Spec PyProof.Rows L2

section
variable {T : Tbl} {G : Gx} {fa : FA} {XR : XRt} {k : Nat} {W : WX} {X : Cx} {σ : L2.St} {H : Hp} {F : Hp} {env : En} {D : Ends}
def rSetU (K : PySem.W.Frag) (fa : FA) : TSet := fun o i v H Q => ∃ F a ob u u' x w, o = .ref a ∧ H a = some ob ∧ Hold K fa F ob u ∧ BRep K fa F H i x ∧ Rep K fa F v w ∧ subF u x w = some u' ∧ ∀ ob', Hold K fa F ob' u' → Q (upd H a ob')
theorem set_ok (hu : X.A.units + 1 < cLine) : PSet X (rSetU X.K fa) := by
  intro pins s σ H o i v ov iv u Q I ro ri rv ⟨F, a, ob, uu, u', x, w, eo, ha, hh, bi, rw', es, q⟩
  cases hh with
  | lst r =>
    rename_i xs us
    cases x <;> first | (simp [subF] at es; done) | skip
    rename_i kk
    simp only [subF] at es
    obtain ⟨j, e1, e2⟩ := Option.map_eq_some_iff.mp es
    subst e2
    have := bi.int
    subst this
    exact set_list pins s σ H o _ v ov iv u Q I ro ri rv ⟨a, xs, kk, j, eo, rfl, ha, by rw [r.length]; exact e1, q _ (.lst (r.set rw' j))⟩
  | dic r =>
    rename_i xs us
    simp only [subF] at es
    obtain ⟨ky, e1, e2⟩ := Option.bind_eq_some_iff.mp es
    split at e2
    · rename_i hz
      cases e2
      have := keyF_rep bi e1
      subst this
      exact set_dict hu pins s σ H o _ v ov iv u Q I ro ri rv ⟨a, _, eo, .k ha (by have := kv_length r; omega), q _ (.dic (put_kv rw' ky r))⟩
    · cases e2
theorem ownB_of {i : Nat} (h : ownB env i = true) : ∃ u p, env[i]? = some (.own u p) := by
  unfold ownB at h
  split at h
  · exact ⟨_, _, by assumption⟩
  · cases h
theorem ownL_of {i : Nat} (h : ownL env i = true) : ∃ u p, env[i]? = some (.own (.lst u) p) := by
  unfold ownL at h
  split at h
  · exact ⟨_, _, by assumption⟩
  · cases h
theorem subE_of {env' : En} {i : Nat} {x w : U} (h : subE env i x w = some env') : ∃ u p u', env[i]? = some (.own u p) ∧ subF u x w = some u' ∧ env' = env.set i (.own u' p) := by
  unfold subE at h
  split at h
  · obtain ⟨u', e1, e2⟩ := Option.map_eq_some_iff.mp h
    exact ⟨_, _, u', by assumption, e1, e2.symm⟩
  · cases h
theorem appE_of {env' : En} {i : Nat} {w : U} (h : appE env i w = some env') : ∃ us p, env[i]? = some (.own (.lst us) p) ∧ us.length < sizeLine ∧ env' = env.set i (.own (.lst (us ++ [w])) p) := by
  unfold appE at h
  split at h
  · split at h
    · cases h
      exact ⟨_, _, by assumption, by assumption, rfl⟩
    · cases h
  · cases h
theorem asg_sub {x y : Expr} {p : Pos} {e : Env} (h : plainB y = true) : ∀ v, assign (.Subscript x y p) e v = (do
      let ov ← holding [v] (eval x e)
      let iv ← holding [v, ov] (eval y e)
      standAt p
      holding [v, ov, iv] (setItem ov iv v)
      release [v, ov, iv] []) := by
  cases y <;> first | (intro v; rfl) | cases h
/-- x[k] = v, v being there -/
theorem sub_read {i : Nat} {ke : E} {v : V} {u : U} {F1 H1 : Hp} {env1 : En} {kk : En → Res (Fl × En)} (hn : σ.length = X.N.length) (l1 : env1.length = X.N.length) (S1 : Sim X.K fa X.N.length F1 H1 σ env1) (r : Rep X.K fa F1 v u) (ow : ownB env1 i = true)
    (o : OutS X.K fa XR W X.N.length F1 H1 σ env1 ((evE G ke env1).bind fun (r, env) => (Res.of (look env r)).bind fun x => (Res.of (subE env i x u)).bind kk) D) (Q : L2.St → Hp → Prop)
    (q : ∀ F3 H3 env3, Sim X.K fa X.N.length F3 H3 σ env3 → Stp F1 H1 σ env1 F3 H3 σ env3 → env3.length = X.N.length → OutS X.K fa XR W X.N.length F3 H3 σ env3 (kk env3) D → Q σ H3) : gSub (tVar i) (tEv G fa XR W X ke) (rSetU X.K fa) v σ H1 Q := by
  obtain ⟨u0, p0, ei⟩ := ownB_of ow
  obtain ⟨a, ob, q1, q2, q3, q4⟩ := S1.slot i _ ei
  refine ⟨.ref a, q1, ?_⟩
  obtain ⟨F0, env0, h0, S0, o0⟩ := evs hn S1 o
  refine ⟨F0, env0, h0, S0, o0.imp fun _ ys H2 ⟨y, ey, F2, env2, p, e1, S2, st2, l2⟩ => ⟨y, ey, ?_⟩⟩
  rw [e1, Res.bind_ok] at o
  obtain ⟨x, e2, o⟩ := OutS.of o
  obtain ⟨env3, e3, o⟩ := OutS.of o
  obtain ⟨uu, p', u', x1, x2, rfl⟩ := subE_of e3
  have hl2 := S2.len
  simp only [List.length_append, List.length_singleton] at hl2
  have b2 := look_rep (j := 0) S2 (by omega) (by omega) rfl rfl e2
  have S2h := S2.head (by omega) (by omega)
  obtain ⟨a', ob', y1, y2, y3, y4⟩ := S2h.slot i _ x1
  rw [q1] at y1
  cases y1
  refine ⟨F2, a, ob', uu, u', x, u, rfl, y2, y3, b2, r.sub st2.ext, x2, fun ob2 hh => ?_⟩
  obtain ⟨S4, st4⟩ := S2h.mut x1 q1 hh
  have st24 := (st2.head (by omega) (by omega)).trans st4
  exact q _ _ _ S4 st24 (by simp [l2]) (OutS.pre o st24)
theorem okS_sub {i : Nat} {ke e : E} : OkS T G fa XR k (.sub i ke e) := fun X W A st hc => by
  rw [chkS] at hc
  replace hc := onO_of hc
  obtain ⟨⟨t, v⟩, q1, hc⟩ := hc
  obtain ⟨pos, rfl⟩ := stA_of q1
  replace hc := onO_of hc
  obtain ⟨⟨x, y⟩, q2, hc⟩ := hc
  obtain ⟨q, p, rfl⟩ := exS1_of q2
  simp only [Bool.and_eq_true] at hc
  obtain ⟨⟨⟨h1, h2⟩, h3⟩, h4⟩ := hc
  obtain ⟨n1, n2, n3, n4⟩ := nameB_of h1
  have hu : X.A.units + 1 < cLine := by have := A.un; omega
  refine PS.imp (ps_asg ((ok_all e).e X W A.toAmb v h4) (pg_sub (pe_var n1 n2 n3 n4) ((ok_all ke).e X W A.toAmb y h2) (set_ok (fa := fa) hu) (asg_sub h3)) (sw_tg (t := .Subscript (.Name x q) y p) (v := v) (l := pos.line) (env := X.env) rfl) sw_sub rfl) fun D σ H ⟨F, env, hn, S, o⟩ => ?_
  simp only [exS] at o
  obtain ⟨F0, env0, h0, S0, o0⟩ := evs hn S o
  refine ⟨F0, env0, h0, S0, o0.imp fun _ vs H1 ⟨v, ev, F1, env1, p, e1, S1, st1, l1⟩ => ⟨v, ev, ?_⟩⟩
  rw [e1, Res.bind_ok] at o
  obtain ⟨u, e2, o⟩ := OutS.of o
  split at o
  · rename_i ow
    obtain ⟨F2, S2, st2, r⟩ := freeze1 S1 (by omega) e2
    have hln := S.len
    have st12 := (st1.trans st2).head (σ' := σ) (env' := env1) (by omega) (by omega)
    exact sub_read hn l1 (S2.head (by omega) (by omega)) r ow (OutS.pre o st12) _ fun F3 H3 env3 S3 st3 l3 o3 => o3 _ _ _ S3 (.refl _ _ _ _) l3
  · exact o.elim
theorem okS_par2 {i j : Nat} {ke le a b : E} : OkS T G fa XR k (.par2 i ke j le a b) := fun X W A st hc => by
  rw [chkS] at hc
  replace hc := onO_of hc
  obtain ⟨⟨t, v⟩, q1, hc⟩ := hc
  obtain ⟨pos, rfl⟩ := stA_of q1
  replace hc := onO_of hc
  obtain ⟨xs, q2, hc⟩ := hc
  obtain ⟨kk, tp, rfl⟩ := exT_of q2
  replace hc := onO_of hc
  obtain ⟨vs, q3, hc⟩ := hc
  obtain ⟨kv, vp, rfl⟩ := exT_of q3
  replace hc := onO_of hc
  obtain ⟨⟨s1, s2⟩, q4, hc⟩ := hc
  cases exS2_of q4
  replace hc := onO_of hc
  obtain ⟨⟨x, y⟩, q5, hc⟩ := hc
  obtain ⟨nx, px, rfl⟩ := exS1_of q5
  replace hc := onO_of hc
  obtain ⟨⟨x', y'⟩, q6, hc⟩ := hc
  obtain ⟨nx', px', rfl⟩ := exS1_of q6
  simp only [Bool.and_eq_true, decide_eq_true_eq, Bool.not_eq_true'] at hc
  obtain ⟨⟨⟨⟨⟨⟨⟨⟨h1, h2⟩, h3⟩, h4⟩, h5⟩, h6⟩, h7⟩, h8⟩, h0⟩ := hc
  obtain ⟨n1, n2, n3, n4⟩ := nameB_of h1
  obtain ⟨m1, m2, m3, m4⟩ := nameB_of h2
  have hu : X.A.units + 1 < cLine := by have := A.un; omega
  refine PS.imp (ps_asg (pe_tup ((ok_all (.cons a (.cons b .nil))).l X W A.toAmb vs h8))
    (pg_tup (A.calm h0) (pgs_cons (pg_sub (pe_var n1 n2 n3 n4) ((ok_all ke).e X W A.toAmb y h3) (set_ok (fa := fa) hu) (asg_sub h4)) (pgs_cons (pg_sub (pe_var m1 m2 m3 m4) ((ok_all le).e X W A.toAmb y' h5) (set_ok (fa := fa) hu) (asg_sub h6)) pgs_nil rfl) rfl) (n := 2) rfl rfl)
    (sw_tg (t := .Tuple [.Subscript (.Name x nx) y px, .Subscript (.Name x' nx') y' px'] kk tp) (v := .Tuple vs kv vp) (l := pos.line) (env := X.env) rfl) (sw_tup A.kind h7) rfl) fun D σ H ⟨F, env, hn, S, o⟩ => ?_
  simp only [exS] at o
  refine ⟨F, env, hn, S, (OutS.sub (sh := fun w => w) o (.refl _ _ _ _) hn).imp fun ws vs H1 ⟨F1, env1, e1, S1, st1, l1⟩ => ?_⟩
  rw [e1, Res.bind_ok] at o
  obtain ⟨us, e2, o⟩ := OutS.of o
  obtain ⟨F2, S2, st2, r⟩ := freeze_side S1 (by omega) e2
  have hln := S.len
  rcases us with _ | ⟨u, _ | ⟨w, _ | ⟨_, _⟩⟩⟩ <;> first | exact o.elim | skip
  simp only at o
  split at o
  · rename_i ow
    obtain ⟨v1, v2, rfl, r1, r2⟩ := RepAll.two r
    refine ⟨by show 2 ≤ sizeLine; decide, fun T hT => ?_⟩
    have S2h := S2.head (σ := σ) (env := env1) (by omega) (by omega)
    have st12 := (st1.trans st2).head (σ' := σ) (env' := env1) (by omega) (by omega)
    have P := OpPost.tup S2.fr hT r
    obtain ⟨S3, st3⟩ := P.sim S2h
    have S3h := S3.head (σ := σ) (env := env1) (by omega) (by omega)
    have st3h := st3.head (σ' := σ) (env' := env1) (by omega) (Nat.le_refl _)
    refine ⟨T, _, rfl, .inl (.inl upd_same), rfl, v1, _, rfl, ?_⟩
    refine sub_read hn l1 S3h (r1.sub P.ext) ow (OutS.pre o (st12.trans st3h)) _ fun F4 H4 env4 S4 st4 l4 o4 => ?_
    split at o4
    · rename_i ow2
      refine ⟨v2, _, rfl, ?_⟩
      refine sub_read hn l4 S4 (r2.sub (P.ext.trans st4.ext)) ow2 o4 _ fun F5 H5 env5 S5 st5 l5 o5 => ⟨rfl, ?_⟩
      exact o5 _ _ _ S5 (.refl _ _ _ _) l5
    · exact o4.elim
  · exact o.elim
theorem okS_app {i : Nat} {e : E} : OkS T G fa XR k (.app i e) := fun X W A st hc => by
  rw [chkS] at hc
  replace hc := onO_of hc
  obtain ⟨⟨v, ln⟩, q1, hc⟩ := hc
  obtain ⟨pos, rfl⟩ := stX_of q1
  replace hc := onO_of hc
  obtain ⟨⟨x, a⟩, q2, hc⟩ := hc
  obtain ⟨q, ap, cp, rfl, hline⟩ := exA_of q2
  simp only [Bool.and_eq_true] at hc
  obtain ⟨⟨h1, h2⟩, h3⟩ := hc
  obtain ⟨n1, n2, n3, n4⟩ := nameB_of h1
  have hs : starEach [a] X.env = (false, eval a X.env) :: starEach [] X.env := star_cons h3
  have hfew : ((backTo cp (starEach [a] X.env)).all (fun x => !x.1) && (backToKw cp (keywordEach [] X.env)).all (fun x => x.1.isSome)
      && decide (([a] : List Expr).length + ([] : List Keyword).length + (if ([] : List Keyword).isEmpty then 0 else 1) < 30)) = true := by rw [hs]; rfl
  refine PS.imp (ps_expr (pe_bm PySem.F.plainAttrs_list PySem.F.slot_list_append PySem.F.type_list_append mt_append (pe_var n1 n2 n3 n4) (pa_cons ((ok_all e).e X W A.toAmb a h2) pa_nil hs) rfl hfew hline hs rfl) rfl) fun D σ H ⟨F, env, hn, S, o⟩ => ?_
  simp only [exS] at o
  split at o
  · rename_i ow
    obtain ⟨us0, p0, ei⟩ := ownL_of ow
    obtain ⟨ad, ob, x1, x2, x3, x4⟩ := S.slot i _ ei
    refine ⟨.ref ad, x1, ?_, ?_⟩
    · cases x3 with
      | lst r => exact .inl ⟨rfl, _, .of x2⟩
    · obtain ⟨F0, env0, h0, S0, o0⟩ := evs hn S o
      refine ⟨F0, env0, h0, S0, o0.imp fun _ vs H1 ⟨v, ev, F1, env1, p, e1, S1, st1, l1⟩ => ⟨v, ev, ?_⟩⟩
      rw [e1, Res.bind_ok] at o
      obtain ⟨u, e2, o⟩ := OutS.of o
      obtain ⟨env2, e3, o⟩ := OutS.of o
      obtain ⟨F2, S2, st2, r⟩ := freeze1 S1 (by omega) e2
      obtain ⟨us, pp, y1, y2, rfl⟩ := appE_of e3
      have hln := S.len
      have S2h := S2.head (σ := σ) (env := env1) (by omega) (by omega)
      obtain ⟨ad', ob', z1, z2, z3, z4⟩ := S2h.slot i _ y1
      rw [x1] at z1
      cases z1
      cases z3 with
      | lst rr =>
        rename_i xs
        refine ⟨ad, xs, v, rfl, rfl, z2, by have := rr.length; omega, ?_⟩
        obtain ⟨S3, st3⟩ := S2h.mut y1 x1 (.lst (rr.app (.cons r .nil)))
        exact o _ _ _ S3 (((st1.trans st2).head (by omega) (by omega)).trans st3) (by simp [l1])
  · exact o.elim
theorem parB_len {N : List Str} {sc : Scope} : ∀ {is : List Nat} {xs : List Expr}, parB N sc is xs = true → xs.length = is.length
  | [], [], _ => rfl
  | [], _ :: _, h => by simp [parB] at h
  | _ :: _, [], h => by simp [parB] at h
  | i :: r, x :: xs, h => by
    cases x <;> first | (simp [parB] at h; done) | skip
    simp only [parB, Bool.and_eq_true] at h
    simp [parB_len h.2]
theorem parB_cons {N : List Str} {sc : Scope} {i : Nat} {r : List Nat} {xs : List Expr} (h : parB N sc (i :: r) xs = true) : ∃ x p ys, xs = .Name x p :: ys ∧ N[i]? = some x ∧ sc.names.lookup x = some .local ∧ i ∉ r ∧ parB N sc r ys = true := by
  cases xs with
  | nil => simp [parB] at h
  | cons x xs =>
    cases x <;> first | (simp [parB] at h; done) | skip
    simp only [parB, Bool.and_eq_true, decide_eq_true_eq, Bool.not_eq_true', List.contains_eq_mem, decide_eq_false_iff_not] at h
    exact ⟨_, _, _, rfl, h.1.1.1, h.1.1.2, h.1.2, h.2⟩
theorem parIs_cons {ts : E} {i : Nat} {r : List Nat} (h : parIs ts = some (i :: r)) : ∃ t q, ts = .cons t q ∧ parI t = some i ∧ parIs q = some r := by
  cases ts <;> first | (simp [parIs] at h; done) | skip
  simp only [parIs] at h
  obtain ⟨j, e1, e2⟩ := Option.bind_eq_some_iff.mp h
  obtain ⟨r', e3, e4⟩ := Option.map_eq_some_iff.mp e2
  cases e4
  exact ⟨_, _, rfl, e1, e3⟩
theorem parIs_nil {ts : E} (h : parIs ts = some []) : ts = .nil := by
  cases ts <;> first | rfl | (simp [parIs] at h; done) | skip
  simp only [parIs] at h
  obtain ⟨j, e1, e2⟩ := Option.bind_eq_some_iff.mp h
  obtain ⟨r', e3, e4⟩ := Option.map_eq_some_iff.mp e2
  cases e4
theorem parF_len : ∀ {ws : List Slot} {ts : E} {is : List Nat} {env env' : En}, parIs ts = some is → parF ts ws env = some env' → ws.length = is.length := by
  intro ws
  induction ws with
  | nil =>
    intro ts is env env' h1 h2
    cases ts <;> first | (simp [parF] at h2; done) | skip
    simp [parIs] at h1
    subst h1
    rfl
  | cons s r ih =>
    intro ts is env env' h1 h2
    cases ts <;> first | (simp [parF] at h2; done) | skip
    rename_i t q
    simp only [parIs] at h1
    obtain ⟨j, e1, e2⟩ := Option.bind_eq_some_iff.mp h1
    obtain ⟨r', e3, e4⟩ := Option.map_eq_some_iff.mp e2
    subst e4
    cases t <;> first | (simp [parF] at h2; done) | skip
    · simp only [parF] at h2
      obtain ⟨e5, _, h2⟩ := Option.bind_eq_some_iff.mp h2
      simp [ih e3 h2]
    · simp only [parF] at h2
      obtain ⟨e5, _, h2⟩ := Option.bind_eq_some_iff.mp h2
      obtain ⟨e6, _, h2⟩ := Option.bind_eq_some_iff.mp h2
      simp [ih e3 h2]
theorem okS_par {ts es : E} : OkS T G fa XR k (.par ts es) := fun X W A st hc => by
  rw [chkS] at hc
  replace hc := onO_of hc
  obtain ⟨⟨t, v⟩, q1, hc⟩ := hc
  obtain ⟨pos, rfl⟩ := stA_of q1
  replace hc := onO_of hc
  obtain ⟨xs, q2, hc⟩ := hc
  obtain ⟨kk, tp, rfl⟩ := exT_of q2
  replace hc := onO_of hc
  obtain ⟨vs, q3, hc⟩ := hc
  obtain ⟨kv, vp, rfl⟩ := exT_of q3
  replace hc := onO_of hc
  obtain ⟨is, q4, hc⟩ := hc
  simp only [Bool.and_eq_true, decide_eq_true_eq, Bool.not_eq_true'] at hc
  obtain ⟨⟨⟨⟨h1, h2⟩, h3⟩, h4⟩, h0⟩ := hc
  have hw := sw_tup (k := kk) (p := tp) (k' := kv) (p' := vp) A.kind h3
  have hlv : vs.length = xs.length := by
    unfold swB at h3
    split at h3
    · cases h3
    · rename_i c
      simp only [Bool.or_eq_true, bne_iff_ne, not_or, ne_eq, Decidable.not_not] at c
      exact c.2
  have hL := (ok_all es).l X W A.toAmb vs h4
  rcases is with _ | ⟨i, _ | ⟨j, _ | ⟨l, _ | ⟨_, _⟩⟩⟩⟩ <;> first | (simp [few] at h1; done) | skip
  · obtain ⟨t1, r1, rfl, i1, q5⟩ := parIs_cons q4
    obtain ⟨t2, r2, rfl, i2, q6⟩ := parIs_cons q5
    cases parIs_nil q6
    obtain ⟨x, px, ys, rfl, n1, n2, n3, h5⟩ := parB_cons h2
    obtain ⟨y, py, zs, rfl, m1, m2, m3, h6⟩ := parB_cons h5
    have := parB_len h6
    cases zs <;> first | (cases this; done) | skip
    rcases vs with _ | ⟨a, _ | ⟨b, _ | ⟨_, _⟩⟩⟩ <;> first | (cases hlv; done) | skip
    have hij : i ≠ j := fun z => n3 (by simp [z])
    refine PS.imp (ps_par (A.calm h0) A.nd n1 m1 hij n2 m2 hL hw rfl) fun D σ H ⟨F, env, hn, S, o⟩ => ?_
    simp only [exS] at o
    refine ⟨F, env, hn, S, (OutS.sub (sh := fun w => w) o (.refl _ _ _ _) hn).imp fun ws us H1 ⟨F1, env1, e1, S1, st1, l1⟩ => ?_⟩
    rw [e1, Res.bind_ok] at o
    obtain ⟨env2, e2, o⟩ := OutS.of o
    have hlw := parF_len q4 e2
    have hln := S.len
    have hlu : us.length = ws.length := len_side S1 (by omega)
    rcases ws with _ | ⟨s1, _ | ⟨s2, _ | ⟨_, _⟩⟩⟩ <;> first | (cases hlw; done) | skip
    rcases us with _ | ⟨v1, _ | ⟨v2, _ | ⟨_, _⟩⟩⟩ <;> first | (cases hlu; done) | skip
    refine ⟨v1, v2, rfl, ?_⟩
    obtain ⟨i', F3, env3, p1, p2, S3, st3, l3⟩ := par_one e2 S1 hn l1
    rw [i1] at p1
    cases p1
    obtain ⟨j', F4, env4, p3, p4, S4, st4, l4⟩ := par_one p2 S3 (by simp [hn]) l3
    rw [i2] at p3
    cases p3
    simp only [parF, Option.some.injEq] at p4
    subst p4
    simp only [List.map_nil, List.append_nil] at S4 st4
    exact o _ _ _ S4 (st1.trans (st3.trans st4)) l4
  · obtain ⟨t1, r1, rfl, i1, q5⟩ := parIs_cons q4
    obtain ⟨t2, r2, rfl, i2, q6⟩ := parIs_cons q5
    obtain ⟨t3, r3, rfl, i3, q7⟩ := parIs_cons q6
    cases parIs_nil q7
    obtain ⟨x, px, ys, rfl, n1, n2, n3, h5⟩ := parB_cons h2
    obtain ⟨y, py, zs, rfl, m1, m2, m3, h6⟩ := parB_cons h5
    obtain ⟨z, pz, ws, rfl, k1, k2, k3, h7⟩ := parB_cons h6
    have := parB_len h7
    cases ws <;> first | (cases this; done) | skip
    rcases vs with _ | ⟨a, _ | ⟨b, _ | ⟨c, _ | ⟨_, _⟩⟩⟩⟩ <;> first | (cases hlv; done) | skip
    have hij : i ≠ j := fun z => n3 (by simp [z])
    have hil : i ≠ l := fun z => n3 (by simp [z])
    have hjl : j ≠ l := fun z => m3 (by simp [z])
    refine PS.imp (ps_par3 (A.calm h0) A.nd n1 m1 k1 hij hil hjl n2 m2 k2 hL hw rfl) fun D σ H ⟨F, env, hn, S, o⟩ => ?_
    simp only [exS] at o
    refine ⟨F, env, hn, S, (OutS.sub (sh := fun w => w) o (.refl _ _ _ _) hn).imp fun ws us H1 ⟨F1, env1, e1, S1, st1, l1⟩ => ?_⟩
    rw [e1, Res.bind_ok] at o
    obtain ⟨env2, e2, o⟩ := OutS.of o
    have hlw := parF_len q4 e2
    have hln := S.len
    have hlu : us.length = ws.length := len_side S1 (by omega)
    rcases ws with _ | ⟨s1, _ | ⟨s2, _ | ⟨s3, _ | ⟨_, _⟩⟩⟩⟩ <;> first | (cases hlw; done) | skip
    rcases us with _ | ⟨v1, _ | ⟨v2, _ | ⟨v3, _ | ⟨_, _⟩⟩⟩⟩ <;> first | (cases hlu; done) | skip
    refine ⟨v1, v2, v3, rfl, ?_⟩
    obtain ⟨i', F3, env3, p1, p2, S3, st3, l3⟩ := par_one e2 S1 hn l1
    rw [i1] at p1
    cases p1
    obtain ⟨j', F4, env4, p3, p4, S4, st4, l4⟩ := par_one p2 S3 (by simp [hn]) l3
    rw [i2] at p3
    cases p3
    obtain ⟨l', F5, env5, p5, p6, S5, st5, l5⟩ := par_one p4 S4 (by simp [hn]) l4
    rw [i3] at p5
    cases p5
    simp only [parF, Option.some.injEq] at p6
    subst p6
    simp only [List.map_nil, List.append_nil] at S5 st5
    exact o _ _ _ S5 (st1.trans (st3.trans (st4.trans st5))) l5
/-- every statement -/
theorem okS_all : ∀ s : S, OkS T G fa XR k s ∧ OkB T G fa XR k s := by
  have nb : ∀ {s : S}, (∀ N sc sts, chkB T N s sc sts = false) → OkB T G fa XR k s := fun h X W A sts c => by rw [h] at c; cases c
  have ns : ∀ {s : S}, (∀ N sc st, chkS T N s sc st = false) → OkS T G fa XR k s := fun h X W A st c => by rw [h] at c; cases c
  intro s
  induction s with
  | nil => exact ⟨ns fun N sc st => by rw [chkS], okB_nil⟩
  | seq a r iha ihr => exact ⟨ns fun N sc st => by rw [chkS], okB_seq iha.1 ihr.2⟩
  | pas => exact ⟨okS_pas, nb fun N sc sts => by cases sts <;> rw [chkB] <;> simp⟩
  | brk => exact ⟨okS_brk, nb fun N sc sts => by cases sts <;> rw [chkB] <;> simp⟩
  | cnt => exact ⟨okS_cnt, nb fun N sc sts => by cases sts <;> rw [chkB] <;> simp⟩
  | set i e => exact ⟨okS_set, nb fun N sc sts => by cases sts <;> rw [chkB] <;> simp⟩
  | own i e => exact ⟨okS_own, nb fun N sc sts => by cases sts <;> rw [chkB] <;> simp⟩
  | unp tg e => exact ⟨okS_unp, nb fun N sc sts => by cases sts <;> rw [chkB] <;> simp⟩
  | par ts es => exact ⟨okS_par, nb fun N sc sts => by cases sts <;> rw [chkB] <;> simp⟩
  | par2 i ke j le a b => exact ⟨okS_par2, nb fun N sc sts => by cases sts <;> rw [chkB] <;> simp⟩
  | sub i ke e => exact ⟨okS_sub, nb fun N sc sts => by cases sts <;> rw [chkB] <;> simp⟩
  | app i e => exact ⟨okS_app, nb fun N sc sts => by cases sts <;> rw [chkB] <;> simp⟩
  | exp e => exact ⟨okS_exp, nb fun N sc sts => by cases sts <;> rw [chkB] <;> simp⟩
  | ret e => exact ⟨okS_ret, nb fun N sc sts => by cases sts <;> rw [chkB] <;> simp⟩
  | retn => exact ⟨okS_retn, nb fun N sc sts => by cases sts <;> rw [chkB] <;> simp⟩
  | rse c => exact ⟨okS_rse, nb fun N sc sts => by cases sts <;> rw [chkB] <;> simp⟩
  | iff c a b iha ihb => exact ⟨okS_iff iha.2 ihb.2, nb fun N sc sts => by cases sts <;> rw [chkB] <;> simp⟩
  | for_ tg it b ihb => exact ⟨okS_for ihb.2, nb fun N sc sts => by cases sts <;> rw [chkB] <;> simp⟩
  | whl c b ihb => exact ⟨okS_whl ihb.2, nb fun N sc sts => by cases sts <;> rw [chkB] <;> simp⟩
end
end PF
end
section
set_option Elab.async false
set_option autoImplicit false
set_option linter.all false
set_option maxRecDepth 100000
namespace PF
open PySem PySem.Spec PyProof.Rows L2

section
variable {K : PySem.W.Frag} {fa fb : FA} {F H : Hp}
mutual
theorem Rep.more (h : ∀ i a, fa i = some a → fb i = some a) : ∀ {v : V} {u : U}, Rep K fa F v u → Rep K fb F v u
  | _, _, .non => .non
  | _, _, .bl b => .bl b
  | _, _, .int i => .int i
  | _, _, .str x => .str x
  | _, _, .lst e r => .lst e (RepAll.more h r)
  | _, _, .scr e r => .scr e (RepAll.more h r)
  | _, _, .tup e r => .tup e (RepAll.more h r)
  | _, _, .dic e r => .dic e (RepKV.more h r)
  | _, _, .fn e => .fn (h _ _ e)
theorem RepAll.more (h : ∀ i a, fa i = some a → fb i = some a) : ∀ {v : List V} {u : List U}, RepAll K fa F v u → RepAll K fb F v u
  | _, _, .nil => .nil
  | _, _, .cons a r => .cons (Rep.more h a) (RepAll.more h r)
theorem RepKV.more (h : ∀ i a, fa i = some a → fb i = some a) : ∀ {v : List (Key × V)} {u : List (Key × U)}, RepKV K fa F v u → RepKV K fb F v u
  | _, _, .nil => .nil
  | _, _, .cons a r => .cons (Rep.more h a) (RepKV.more h r)
end
/-- the handled exception under its number -/
def FA.hot (fa : FA) (a : Addr) : FA := { fa with f := fun j => if j = hotN then some a else fa.f j }
theorem FA.hot_at {a : Addr} : fa.hot a hotN = some a := by
  show (if hotN = hotN then some a else fa.f hotN) = some a
  exact if_pos rfl
theorem FA.hot_of {a : Addr} (h0 : fa hotN = none) : ∀ i b, fa i = some b → fa.hot a i = some b := fun i b e => by
  show (if i = hotN then some a else fa.f i) = some b
  rw [if_neg (fun z => by subst z; rw [h0] at e; cases e)]
  exact e
/-- which exceptions are ours, and how they stand -/
def XR1 (fa : FA) : XRt := fun _ _ x cls d => x.arg = [] ∧ ∃ C, fa.cls x.cls = some C ∧ cls = .ref C ∧ d = none
/-- nothing but names that hold nothing, and the exception -/
theorem Sim.hot0 {n i : Nat} {a : Addr} {σ : L2.St} (hl : σ.length = n) (hi : i < n) (ha : σ[i]? = some (some (.ref a))) (ht : LamX.Tabs fa.tabs H) : Sim K (fa.hot a) n (fun _ => none) H σ ((List.replicate n Slot.emp).set i (.val (.fn hotN))) := by
  have own : ∀ (j : Nat) (u : U) (p : Bool), ((List.replicate n Slot.emp).set i (.val (.fn hotN)))[j]? ≠ some (.own u p) := fun j u p e => by
    by_cases c : i = j
    · subst c; rw [List.getElem?_set_self (by simpa using hi)] at e; cases e
    · rw [List.getElem?_set_ne c] at e
      have := List.mem_replicate.mp (List.mem_of_getElem? e)
      cases this.2
  refine ⟨by simp [hl], fun _ _ e => (by cases e), fun j s e => ?_, fun j k b u u' p p' h1 _ _ _ => absurd h1 (own j u p), ht, fun _ _ e => (by cases e)⟩
  by_cases c : i = j
  · subst c
    rw [List.getElem?_set_self (by simpa using hi)] at e
    cases e
    exact ⟨.ref a, ha, .fn FA.hot_at⟩
  · rw [List.getElem?_set_ne c] at e
    rw [(List.mem_replicate.mp (List.mem_of_getElem? e)).2]
    exact True.intro
end

/-- what is to be known of a def that tells -/
structure TelD (P : Prg) (T : Tbl) (K : PySem.W.Frag) (mg : Str → Option Value) (fa : FA) (i : Nat) (x : Str) (g : Addr) (pg : Arguments) (bg : List Stmt) (sg : Scope) (fd : FuncData) (Ng : List Str) (a : Str) (t : Tel) (e n : Str) (CA : Addr) : Prop where
  at_ : P.tels[i]? = some t
  mgx : mg x = some (.ref g)
  fun_ : FunD K x x pg bg sg [] [] g fd
  bind : Binds K fd [a] []
  sc : FnScope Ng [a] sg
  n0 : Ng[0]? = some a
  vis : Vis sg a
  dbg : (a == ("__debug__" : Str)) = false
  cdc : (a == ("__classdict__" : Str)) = false
  len : t.n = Ng.length
  nex : Ng[t.ex]? = some n
  loc : sg.names.lookup n = some .local
  eg : sg.names.lookup e = some .globalImplicit
  ed : (e == ("__debug__" : Str)) = false
  em : mg e = some (.ref CA)
  body : ∃ p1 p2 p3 np b0 suite hp tp j q1 q2, bg = [.Try [.Expr (.Call (.Name a p1) [] [] p2) p3] [.ExceptHandler (some (.Name e np)) (some n) (b0 :: suite) hp] [] [] tp, .Return (some (.Constant (.str t.dflt) j q1)) q2] ∧
    chkB { T with hot := true, lsc := none } Ng t.suite sg (b0 :: suite) = true
  exm : ∀ c C, fa.cls c = some C → PySem.W.exmOne K (.ref C) (.ref CA) = some true
/-- the module's facts that a suite may need -/
structure ModOk (P : Prg) (T : Tbl) (K : PySem.W.Frag) (mg : Str → Option Value) (fa : FA) : Prop where
  free : ∀ x, T.free.contains x = true → mg x = none
  cst : ∀ (i : Nat) (x : Str), T.cst[i]? = some x → ∃ u val v, P.cst[i]? = some u ∧ mg x = some val ∧ RelV v val ∧ ∀ F, Rep K fa F v u
  fns : ∀ (i : Nat) (x : Str), T.fns[i]? = some x → ∃ f, fa i = some f ∧ mg x = some (.ref f)
  hot : fa hotN = none
  exc : ∀ (c : Nat) (x : Str), T.exc[c]? = some x → ∃ C, fa.cls c = some C ∧ mg x = some (.ref C) ∧ PySem.W.excIn K C veB "ValueError.__new__" = true ∧ PySem.W.keepIn K (.ref C) = true ∧ PySem.W.subIn K (.ref C) (.type "BaseException") = some true ∧ PySem.W.typeIn K (.ref C) = some (.type "type")
  gcd : T.gcd = true → mg "gcd" = some (.builtin "math.gcd")
  sub : ∀ (d c : Nat) (b : Bool) (C C' : Addr), fa.cls d = some C → fa.cls c = some C' → P.sub d c = some b → PySem.W.kitOne K (.ref C) (.ref C') = some b
  excc : ∀ (c : Nat) (C : Addr), fa.cls c = some C → L2.ExcC K C
/-- the evaluator's side within a suite -/
def Prg.hgx (P : Prg) (c : Nat) : Gx := { modes := fun _ => none, cst := P.cst, den := fun _ _ => .bad, hx := some c, sub := P.sub }
section
variable {P : Prg} {T : Tbl} {K : PySem.W.Frag} {mg : Str → Option Value} {fa : FA}
theorem amb_hot (M : ModOk P T K mg fa) {Y : Cx} {a C : Addr} {oe : Obj} {pn : List (Addr × Obj)} {c : Nat} (hK : Y.K = K) (hm : Y.mg = mg) (nd : Y.N.Nodup) (un : Y.A.units + 65 < cLine) (hz : L2N.Zn (.ref C) none oe) (hf : ∃ vs, oe.data = .fields vs) (hC : fa.cls c = some C)
    (kind : Y.env.scope.kind = .function) (hfn : ∀ x, Y.env.scope.names.lookup x = some .cell → Y.fn x = true) :
    AmbS { T with hot := true, lsc := none } (P.hgx c) (fa.hot a) (XR1 fa) 0 W0 (Y.suite a ((a, oe) :: pn)) := by
  subst hK hm
  exact { calm := fun h => by cases h
          nd := nd
          room := fun h => by cases h
          un := un
          takes := fun u s' ⟨_, _, _, _, _, _, _, _, _, _, _, _, _, _, _, _, w⟩ => w.elim
          free := M.free
          cst := fun i x e => by
            obtain ⟨u, val, v, q1, q2, q3, q4⟩ := M.cst i x e
            exact ⟨u, val, v, q1, q2, q3, fun F => (q4 F).more (FA.hot_of M.hot)⟩
          fns := fun i x e => by
            obtain ⟨f, q1, q2⟩ := M.fns i x e
            exact ⟨f, FA.hot_of M.hot _ _ q1, q2, fun h => by cases h⟩
          md := fun h => by cases h
          exc := fun c x e => by
            obtain ⟨C, q1, q2, q3, q4, q5, q6⟩ := M.exc c x e
            exact ⟨C, q1, q2, q3, q4, raises_own q5 q6⟩
          xr := fun F H c C e => ⟨rfl, C, e, rfl, rfl⟩
          xrr := fun F H x cls d h => h
          gcd := M.gcd
          sub := M.sub
          hotx := fun _ => ⟨Y, a, C, oe, pn, c, rfl, hz, hf, FA.hot_at, rfl, hC, M.excc c C hC⟩
          lamt := fun ns h => by cases h
          tel := fun h => by cases h
          ok := fun h => by cases h
          kind := kind
          fnc := hfn
          pass := PassesOwn.never }
theorem ps_exprQ {X : Cx} {e : Expr} {te : TE} {pos : Pos} (he : PE X e te) (hs : swapsWith e none pos.line X.env = pure false) : PS X (.Expr e pos) (fun D σ H => ∃ Q1 : VK, te σ H Q1 ∧ ∀ v H', Q1 v H' → D.nx σ H') := ⟨fun pins s σ H D I ⟨Q1, h, im⟩ =>
  wpAny_Expr_any (thn (he.run pins s σ H Q1 I h) fun v s1 ⟨x, H1, I1, r1, q1⟩ => ⟨σ, H1, I1, im x H1 q1⟩) I.quiet hs⟩
theorem tel_ok (M : ModOk P T K mg fa) {prog : Program} {w : World} {base : Heap} {i : Nat} {x : Str} {g : Addr} {pg : Arguments} {bg : List Stmt} {sg : Scope} {fd : FuncData} {Ng : List Str} {a : Str} {t : Tel} {e n : Str} {CA : Addr} {d : Den}
    (D : TelD P T K mg fa i x g pg bg sg fd Ng a t e n CA) : ∃ g pg bg sg dV kV doc pm cdv ct oc an od osl Ng a, TelOk prog w K mg base (P.gx d) fa i x g pg bg sg dV kV doc pm cdv ct oc an od osl Ng a := by
  obtain ⟨oc, od, dV, kV, doc, pm, an, cdv, ct, osl, rfl, lk, hcd, _, _⟩ := D.fun_.ex
  refine ⟨g, pg, bg, sg, dV, kV, doc, pm, cdv, ct, oc, an, od, osl, Ng, a, D.mgx, D.fun_.kp, lk, hcd, D.bind, D.sc, D.n0, D.vis, D.dbg, D.cdc, fun A outer f c s H Q q tl hr act hc hq => ?_⟩
  obtain ⟨p1, p2, p3, np, b0, suite, hp, tp, j, q1, q2, rfl, hchk⟩ := D.body
  -- the readings
  let ts : Addr → Value → Option Addr → TS := fun b cls dd E σ H1 => ∃ k C, fa.cls k = some C ∧ cls = .ref C ∧ dd = none ∧ (σ.length = Ng.length → ∃ F env, Sim K (fa.hot b) Ng.length F H1 σ env ∧ OutS K (fa.hot b) (XR1 fa) W0 Ng.length F H1 σ env (exS (P.hgx k) t.suite env) E)
  have nL : t.ex < Ng.length := (List.getElem?_eq_some_iff.mp D.nex).1
  have hX : ∀ (b : Addr) (oe : Obj) (cls : Value) (dd : Option Addr) (pn : List (Addr × Obj)), L2N.Zn cls dd oe → (∃ vs, oe.data = .fields vs) → PSs ((cxOf C8.CX0 prog w K mg base Ng x sg g cdv A outer s H C8.E0).nox.suite b ((b, oe) :: pn)) (b0 :: suite) (ts b cls dd) := fun b oe cls dd pn hz hf => by
    refine ⟨fun pins s1 σ H1 E I ⟨k, C, e1, e2, e3, h⟩ => ?_⟩
    subst e2 e3
    obtain ⟨F, env, S, o⟩ := h I.len
    have AS := amb_hot M (Y := (cxOf C8.CX0 prog w K mg base Ng x sg g cdv A outer s H C8.E0).nox) (a := b) (pn := pn) (c := k) rfl rfl D.sc.nd (by
      have := hr.un
      show (A.deeper (envOfC x sg s.heap.objs.size g cdv)).units + 65 < cLine
      omega) hz hf e1 D.sc.kind (fun _ _ => rfl)
    exact ((okS_all t.suite).2 _ _ AS (b0 :: suite) hchk).run pins s1 σ H1 E I ⟨F, env, I.len, S, o⟩
  refine ⟨_, pss_cons (L2N.ps_try_as (X := (cxOf C8.CX0 prog w K mg base Ng x sg g cdv A outer s H C8.E0).nox) (x := e) (n := n) (c := .ref CA) (i := t.ex) (ts := ts) (Wout := W0)
    (tb := fun W E σ H1 => ∃ (Ech : XK) (Q1 : VK), (∀ cls d σ' H', Ech cls d H' → W cls d σ' H') ∧ (σ[0]? = some (some (.ref f)) ∧ H1 c = some (LamX.CodeO c q) ∧ tl Ech H1 Q1) ∧ ∀ v H', Q1 v H' → E.nx σ H')
    rfl rfl D.sc.nd D.nex D.loc ⟨D.eg, D.ed, .inl D.em⟩ (fun u s' ⟨_, _, _, _, _, _, _, _, _, _, _, _, _, _, _, _, w⟩ => w.elim)
    (fun W pn xe tk _ => ⟨fun pins s1 σ H1 E I ⟨Ech, Q1, hW, h1, im⟩ => (pss_one (ps_exprQ (act W pn xe Ech p1 p2 tk hW) rfl)).run pins s1 σ H1 E I ⟨Q1, h1, im⟩⟩) hX) (pss_one (ps_ret pe_str)), ?_⟩
  refine ⟨fun cls dd H' => ∃ k C u, fa.cls k = some C ∧ cls = .ref C ∧ dd = none ∧ (P.gx d).tel i (some ⟨k, []⟩) = some u ∧ GrowQ fa Q u H', fun _ H' => ∃ u, (P.gx d).tel i none = some u ∧ GrowQ fa Q u H',
    fun cls dd σ' H' ⟨k, C, u, e1, e2, e3, e4, tabs, gq⟩ => ?_, ⟨?_, hc, hq⟩, fun v H' ⟨u, e1, tabs, gq⟩ => ?_⟩
  · refine ⟨true, by subst e2; exact D.exm k C e1, fun _ b hb => ⟨k, C, e1, e2, e3, fun hl => ?_⟩, fun z => by cases z⟩
    have e5 : telF P.cst P.sub t (some ⟨k, []⟩) = some u := by
      have e4 : (P.tels[i]?.bind fun t => telF P.cst P.sub t (some ⟨k, []⟩)) = some u := e4
      rw [D.at_] at e4
      exact e4
    have hl' : σ'.length = Ng.length := by simpa using hl
    refine ⟨fun _ => none, (List.replicate Ng.length Slot.emp).set t.ex (.val (.fn hotN)), Sim.hot0 hl nL (by rw [List.getElem?_set_self (by omega)]) tabs, ?_⟩
    have e6 : (match exS (P.hgx k) t.suite ((List.replicate t.n Slot.emp).set t.ex (.val (.fn hotN))) with
      | .ok (.rt (.val (.str s)), _) => some s
      | _ => none) = some u := e5
    rw [D.len] at e6
    split at e6
    · rename_i s1 env1 er
      cases e6
      rw [er]
      intro σ2 v F2 H2 S2 st2 l2
      obtain ⟨v', r1, r2⟩ := S2.slot env1.length (.val (.str u)) (by rw [getR (Nat.le_refl _)]; simp)
      have hln := S2.len
      simp only [List.length_append, List.length_singleton] at hln
      rw [show env1.length = σ2.length by omega, getR (Nat.le_refl _)] at r1
      simp at r1
      subst r1
      cases r2
      refine gq H2 (fun b' o eo nt => st2.keep b' o eo (fun ⟨j, u', p', h1, _⟩ => ?_) nt) S2.tab
      by_cases cj : t.ex = j
      · subst cj; rw [List.getElem?_set_self (by simpa using nL)] at h1; cases h1
      · rw [List.getElem?_set_ne cj] at h1
        have := List.mem_replicate.mp (List.mem_of_getElem? h1)
        cases this.2
    · cases e6
  · have : 0 < Ng.length := by have := D.n0; exact (List.getElem?_eq_some_iff.mp this).1
    show (([V.ref f].map some ++ List.replicate (Ng.length - [V.ref f].length) none : List (Option V)))[0]? = _
    rfl
  · have e2 : (P.tels[i]?.bind fun t => telF P.cst P.sub t none) = some u := e1
    rw [D.at_] at e2
    cases e2
    exact gq H' (LamX.ExtN.refl _) tabs
end
end PF
end
section
set_option Elab.async false
set_option autoImplicit false
set_option linter.all false
set_option maxRecDepth 100000
namespace PF
open PySem PySem.Spec PyProof.Rows L2

theorem outsF_get : ∀ {md : List Bool} {e as : List Slot}, md.length = as.length → as.length ≤ e.length → (outsF md e as).length = as.length ∧ ∀ j : Nat, (md[j]? = some true → (outsF md e as)[j]? = e[j]?) ∧ (md[j]? = some false → (outsF md e as)[j]? = as[j]?)
  | [], e, [], _, _ => ⟨by cases e <;> rfl, fun j => ⟨fun h => by simp at h, fun h => by simp at h⟩⟩
  | [], _, _ :: _, h, _ => by simp at h
  | _ :: _, _, [], h, _ => by simp at h
  | _ :: _, [], _ :: _, _, h => by simp at h
  | b :: md, s :: e, a :: as, h1, h2 => by
    obtain ⟨q1, q2⟩ := outsF_get (md := md) (e := e) (as := as) (by simpa using h1) (by simpa using h2)
    cases b with
    | true =>
      refine ⟨by simp [outsF, q1], fun j => ?_⟩
      cases j with
      | zero => exact ⟨fun _ => by simp [outsF], fun h => by simp at h⟩
      | succ j => simpa [outsF] using q2 j
    | false =>
      refine ⟨by simp [outsF, q1], fun j => ?_⟩
      cases j with
      | zero => exact ⟨fun h => by simp at h, fun _ => by simp [outsF]⟩
      | succ j => simpa [outsF] using q2 j
section
variable {K : PySem.W.Frag} {fa : FA} {n : Nat} {F F' H H' : Hp}
/-- what a call's places are -/
def ArgOk (md : List Bool) (as : List Slot) : Prop := ∀ j : Nat, (md[j]? = some false → ∃ u, as[j]? = some (.val u)) ∧ (md[j]? = some true → ∃ u, as[j]? = some (.own u true))
theorem ArgOk.at {md : List Bool} {as : List Slot} (h : ArgOk md as) (hl : as.length = md.length) {j : Nat} {s : Slot} (e : as[j]? = some s) : (md[j]? = some false ∧ ∃ u, s = .val u) ∨ (md[j]? = some true ∧ ∃ u, s = .own u true) := by
  have hj := ltOf e
  cases q : md[j]? with
  | none => have := List.getElem?_eq_none_iff.mp q; omega
  | some b =>
    cases b with
    | false =>
      obtain ⟨u, z⟩ := (h j).1 q
      rw [z] at e
      cases e
      exact .inl ⟨rfl, u, rfl⟩
    | true =>
      obtain ⟨u, z⟩ := (h j).2 q
      rw [z] at e
      cases e
      exact .inr ⟨rfl, u, rfl⟩
/-- a def begins -/
theorem Sim.enter {N : List Str} {vs : List V} {md : List Bool} {as : List Slot} (S : Sim K fa 0 F H (vs.map some) as) (ha : ArgOk md as) (hl : as.length = md.length) (hv : vs.length = as.length) (hN : as.length ≤ N.length) :
    Sim K fa N.length F H (start N vs) (as ++ List.replicate (N.length - as.length) .emp) := by
  have hs : start N vs = vs.map some ++ List.replicate (N.length - vs.length) none := rfl
  have old : ∀ (j : Nat) (u : U) (p : Bool) (a : Addr), (as ++ List.replicate (N.length - as.length) Slot.emp)[j]? = some (.own u p) → (start N vs)[j]? = some (some (.ref a)) → as[j]? = some (.own u p) ∧ (vs.map some)[j]? = some (some (.ref a)) := fun j u p a h1 h2 => by
    by_cases c : j < as.length
    · rw [getL c] at h1
      rw [hs, getL (by simp; omega)] at h2
      exact ⟨h1, h2⟩
    · rw [getR (by omega)] at h1
      have := List.mem_replicate.mp (List.mem_of_getElem? h1)
      cases this.2
  refine ⟨by rw [hs]; simp; omega, S.fr, fun j s e => ?_, fun i j a u u' p p' h1 h2 h3 h4 => ?_, S.tab, S.fnt⟩
  · by_cases c : j < as.length
    · rw [getL c] at e
      have q := S.slot j s e
      have e2 : (start N vs)[j]? = (vs.map some)[j]? := by rw [hs, getL (by simp; omega)]
      rcases ha.at hl e with ⟨_, u, rfl⟩ | ⟨_, u, rfl⟩
      · obtain ⟨v, q1, q2⟩ := q; exact ⟨v, e2.trans q1, q2⟩
      · obtain ⟨a, o, q1, q2⟩ := q; exact ⟨a, o, e2.trans q1, q2⟩
    · rw [getR (by omega)] at e
      have := List.mem_replicate.mp (List.mem_of_getElem? e)
      rw [this.2]
      exact True.intro
  · obtain ⟨x1, x2⟩ := old i u p a h1 h3
    obtain ⟨y1, y2⟩ := old j u' p' a h2 h4
    exact S.inj i j a u u' p p' x1 y1 x2 y2
theorem own_enter {N : List Str} {vs : List V} {as : List Slot} (hv : vs.length = as.length) {a : Addr} (h : Own (start N vs) (as ++ List.replicate (N.length - as.length) .emp) a) : Own (vs.map some) as a := by
  obtain ⟨j, u, p, h1, h2⟩ := h
  by_cases c : j < as.length
  · rw [getL c] at h1
    have hs : start N vs = vs.map some ++ List.replicate (N.length - vs.length) none := rfl
    rw [hs, getL (by simp; omega)] at h2
    exact ⟨j, u, p, h1, h2⟩
  · rw [getR (by omega)] at h1
    have := List.mem_replicate.mp (List.mem_of_getElem? h1)
    cases this.2
/-- .. and is left -/
theorem leave {N : List Str} {vs : List V} {md : List Bool} {as : List Slot} {σ' τ : L2.St} {e ws : En} (S : Sim K fa 0 F H (vs.map some) as) (ha : ArgOk md as) (hl : as.length = md.length) (hv : vs.length = as.length) (hN : as.length ≤ N.length)
    (S' : Sim K fa N.length F' H' (σ' ++ τ) (e ++ ws)) (he : e.length = N.length) (hσ : σ'.length = N.length) (hw : NoBor ws) (st : Stp F H (start N vs) (as ++ List.replicate (N.length - as.length) .emp) F' H' (σ' ++ τ) (e ++ ws)) :
    Sim K fa 0 F' H' (vs.map some ++ τ) (outsF md e as ++ ws) ∧ Stp F H (vs.map some) as F' H' (vs.map some ++ τ) (outsF md e as ++ ws) ∧ (outsF md e as).length = as.length := by
  obtain ⟨lo, og⟩ := outsF_get (md := md) (e := e) (as := as) hl.symm (by omega)
  have hs : start N vs = vs.map some ++ List.replicate (N.length - vs.length) none := rfl
  -- the lent places
  have pin : ∀ (j : Nat), md[j]? = some true → ∃ u', e[j]? = some (.own u' true) ∧ σ'[j]? = (vs.map some)[j]? := fun j hm => by
    obtain ⟨u, eu⟩ := (ha j).2 hm
    have hj := ltOf eu
    obtain ⟨q1, u', q2⟩ := st.pin j u (by rw [getL hj]; exact eu)
    rw [getL (by omega)] at q1 q2
    rw [hs, getL (by simp; omega)] at q1
    exact ⟨u', q2, q1⟩
  -- places behind the call: where they stood
  have at1 : ∀ (j : Nat) (s : Slot), (outsF md e as ++ ws)[j]? = some s → (∃ u, s = .val u ∧ as[j]? = some (.val u) ∧ j < as.length) ∨ (∃ u, s = .own u true ∧ e[j]? = some (.own u true) ∧ σ'[j]? = (vs.map some)[j]? ∧ j < as.length) ∨ (as.length ≤ j ∧ ws[j - as.length]? = some s) := fun j s q => by
    by_cases c : j < as.length
    · rw [getL (by omega)] at q
      rcases ha.at hl (List.getElem?_eq_getElem c) with ⟨hm, u, eu⟩ | ⟨hm, u, eu⟩
      · rw [(og j).2 hm, List.getElem?_eq_getElem c, eu] at q
        cases q
        exact .inl ⟨u, rfl, by rw [List.getElem?_eq_getElem c, eu], c⟩
      · rw [(og j).1 hm] at q
        obtain ⟨u', q1, q2⟩ := pin j hm
        rw [q1] at q
        cases q
        exact .inr (.inl ⟨u', rfl, q1, q2, c⟩)
    · rw [getR (by omega), lo] at q
      exact .inr (.inr ⟨by omega, q⟩)
  have two : ∀ (j : Nat) (u : U) (p : Bool) (a : Addr), (outsF md e as ++ ws)[j]? = some (.own u p) → (vs.map some ++ τ)[j]? = some (some (.ref a)) →
      ∃ j', (e ++ ws)[j']? = some (.own u p) ∧ (σ' ++ τ)[j']? = some (some (.ref a)) ∧ ((j < as.length ∧ j' = j) ∨ (as.length ≤ j ∧ j' = N.length + (j - as.length))) := fun j u p a h1 h2 => by
    rcases at1 j _ h1 with ⟨_, z, _⟩ | ⟨u', z, q1, q2, c⟩ | ⟨c, q⟩
    · cases z
    · cases z
      rw [getL (by simp; omega)] at h2
      exact ⟨j, by rw [getL (by omega)]; exact q1, by rw [getL (by omega), q2]; exact h2, .inl ⟨c, rfl⟩⟩
    · rw [getR (by simp; omega), List.length_map, hv] at h2
      exact ⟨N.length + (j - as.length), by rw [getR (by omega), he, Nat.add_sub_cancel_left]; exact q, by rw [getR (by omega), hσ, Nat.add_sub_cancel_left]; exact h2, .inr ⟨c, rfl⟩⟩
  have hτ : τ.length = ws.length := by have := S'.len; simp only [List.length_append] at this; omega
  refine ⟨⟨by simp; omega, S'.fr, fun j s q => ?_, fun i j a u u' p p' h1 h2 h3 h4 => ?_, S'.tab, S'.fnt⟩, ⟨st.ext, fun a o h no => st.keep a o h fun z => no (own_enter hv z), fun a ⟨j, u, p, h1, h2⟩ => ?_, fun a o h => ?_, fun j u q => ?_⟩, lo⟩
  · rcases at1 j s q with ⟨u, rfl, q1, c⟩ | ⟨u', rfl, q1, q2, c⟩ | ⟨c, q1⟩
    · obtain ⟨v, x1, x2⟩ := S.slot j _ q1
      exact ⟨v, by rw [getL (by simp; omega)]; exact x1, x2.sub st.ext⟩
    · obtain ⟨a, o, x1, x2⟩ := S'.slot j (.own u' true) (by rw [getL (by omega)]; exact q1)
      rw [getL (by omega), q2] at x1
      exact ⟨a, o, by rw [getL (by simp; omega)]; exact x1, x2⟩
    · have x := S'.slot (N.length + (j - as.length)) s (by rw [getR (by omega), he, Nat.add_sub_cancel_left]; exact q1)
      have e2 : (vs.map some ++ τ)[j]? = (σ' ++ τ)[N.length + (j - as.length)]? := by rw [getR (by simp; omega), getR (by omega), List.length_map, hv, hσ, Nat.add_sub_cancel_left]
      cases s with
      | emp => exact True.intro
      | val u => obtain ⟨v, x1, x2⟩ := x; exact ⟨v, e2.trans x1, x2⟩
      | own u p => obtain ⟨a, o, x1, x2⟩ := x; exact ⟨a, o, e2.trans x1, x2⟩
      | bor k => exact (hw _ (List.mem_of_getElem? q1) k rfl).elim
  · obtain ⟨i', x1, x2, x3⟩ := two i u p a h1 h3
    obtain ⟨j', y1, y2, y3⟩ := two j u' p' a h2 h4
    have := S'.inj i' j' a u u' p p' x1 y1 x2 y2
    omega
  · obtain ⟨j', x1, x2, _⟩ := two j u p a h1 h2
    exact (st.sub a ⟨j', u, p, x1, x2⟩).imp (own_enter hv) id
  · exact (st.new a o h).imp id fun z => z.imp (own_enter hv) id
  · rcases ha.at hl q with ⟨_, _, z⟩ | ⟨hm, _, z⟩
    · cases z
    · obtain ⟨u', q1, q2⟩ := pin j hm
      have hj := ltOf q
      exact ⟨getL (by simp; omega), u', by rw [getL (by omega), (og j).1 hm]; exact q1⟩
end

structure DefOk (P : Prg) (T : Tbl) (K : PySem.W.Frag) (fa : FA) (cs : List (Addr × Addr)) (i : Nat) (f : Addr) (fn : Fn) (x qual : Str) (params : Arguments) (body : List Stmt) (scope : Scope) (fd : FuncData) (N ps : List Str) (lsc : Option (List (Str × NameKind))) : Prop where
  at_ : P.fns[i]? = some fn
  fun_ : FunD K x qual params body scope [] [] f fd
  bind : Binds K fd ps []
  sc : FnScope N ps scope
  n : fn.n = N.length
  md : fn.md.length = ps.length
  chk : chkB { T with lsc := lsc } N fn.body scope body = true
  lam : ∀ ns, lsc = some ns → ∃ c Q, fd.code = .ref c ∧ (c, Q) ∈ cs ∧ (Q, (qual ++ ".<locals>." : Str) ++ "<lambda>") ∈ fa.tabs ∧ ∀ p ∈ fa.tabs, p.1 = Q → p.2 = (qual ++ ".<locals>." : Str) ++ "<lambda>"
section
variable {P : Prg} {T : Tbl} {prog : Program} {w : World} {K : PySem.W.Frag} {mg : Str → Option Value} {base : Heap} {fa : FA} {cs : List (Addr × Addr)}
/-- what a program's facts are -/
structure PrgOk (P : Prg) (T : Tbl) (K : PySem.W.Frag) (mg : Str → Option Value) (fa : FA) (cs : List (Addr × Addr)) : Prop extends ModOk P T K mg fa where
  cool : T.hot = false
  defs : ∀ (i : Nat) (f : Addr), fa i = some f → ∃ fn x qual params body scope fd N ps lsc, DefOk P T K fa cs i f fn x qual params body scope fd N ps lsc
  tels : ∀ (i : Nat) (x : Str), T.tel[i]? = some x → ∃ g pg bg sg fd Ng a t e n CA, TelD P T K mg fa i x g pg bg sg fd Ng a t e n CA
theorem PrgOk.mode (h : PrgOk P T K mg fa cs) {i : Nat} {f : Addr} (e : fa i = some f) : ∃ md, P.modes i = some md := by
  obtain ⟨fn, x, qual, params, body, scope, fd, N, ps, lsc, D⟩ := h.defs i f e
  exact ⟨fn.md, by unfold Prg.modes; rw [D.at_]; rfl⟩
theorem TelD.lsc {i : Nat} {x : Str} {g : Addr} {pg : Arguments} {bg : List Stmt} {sg : Scope} {fd : FuncData} {Ng : List Str} {a : Str} {t : Tel} {e n : Str} {CA : Addr} {l : Option (List (Str × NameKind))} (D : TelD P T K mg fa i x g pg bg sg fd Ng a t e n CA) : TelD P { T with lsc := l } K mg fa i x g pg bg sg fd Ng a t e n CA :=
  ⟨D.at_, D.mgx, D.fun_, D.bind, D.sc, D.n0, D.vis, D.dbg, D.cdc, D.len, D.nex, D.loc, D.eg, D.ed, D.em, D.body, D.exm⟩
theorem ModOk.lsc {l : Option (List (Str × NameKind))} (M : ModOk P T K mg fa) : ModOk P { T with lsc := l } K mg fa := ⟨M.free, M.cst, M.fns, M.hot, M.exc, M.gcd, M.sub, M.excc⟩
theorem room_two {B : Around} {k : Nat} (hr : Room (k + 1) B) (e1 e2 : Env) : Room k ((B.deeper e1).deeper e2) := by
  have h1 := hr.dp
  have h2 := hr.un
  refine ⟨hr.hd, ?_, ?_⟩
  · show B.depth + 1 + 1 + 3 * k + 5 < _
    omega
  · show B.units + 3 + 3 + 16 * k + 200 < _
    omega
theorem def_ok (h : PrgOk P T K mg fa cs) (hT : ∀ p ∈ cs, LamX.TabB base mg p.1 p.2) {k : Nat} (ih : ∀ (i : Nat) (f : Addr), fa i = some f → ∀ md, P.modes i = some md → ∃ fd ps, PySem.W.keepIn K (.ref f) = true ∧ Binds K fd ps [] ∧ FnOk prog w K mg base (L2N.CX prog w) (2 * k + 1) f fd ps (spF K fa (XR1 fa) (P.den k) i md))
    {i : Nat} {f : Addr} {fn : Fn} {x qual : Str} {params : Arguments} {body : List Stmt} {scope : Scope} {fd : FuncData} {N ps : List Str} {lsc : Option (List (Str × NameKind))} (D : DefOk P T K fa cs i f fn x qual params body scope fd N ps lsc) :
    FnOk prog w K mg base (L2N.CX prog w) (2 * (k + 1) + 1) f fd ps (spF K fa (XR1 fa) (P.den (k + 1)) i fn.md) := by
  have hpl : ps.length ≤ N.length := by have := congrArg List.length D.sc.pre; rw [List.length_take] at this; omega
  obtain ⟨oc, od, dV, kV, doc, pm, an, cdv, ct, osl, efd, lk, hcd, _, _⟩ := D.fun_.ex
  have hlam := D.lam
  subst efd
  refine fn_of (k := 2 * k + 2) lk hcd D.sc (fun vs H Q E ⟨F, as, l1, l2, _⟩ => by rw [l2]; exact D.md) fun A outer s H vs Q E hr ⟨F, as, l1, l2, ha, S, q⟩ => ?_
  generalize hX : cxOf (L2N.CX prog w) prog w K mg base N qual scope f cdv A outer s H E = X
  have hXe : X = cxOf (L2N.CX prog w) prog w K mg base N qual scope f cdv A outer s H E := hX.symm
  have htel : ∀ (i : Nat) (x : Str), T.tel[i]? = some x → ∃ g pg bg sg dV kV doc pm cdv ct oc an od osl Ng a, TelOk prog w K mg base (P.gx (P.den k)) fa i x g pg bg sg dV kV doc pm cdv ct oc an od osl Ng a := fun i x e => by
    obtain ⟨g, pg, bg, sg, fd, Ng, a, t, e', n, CA, TD⟩ := h.tels i x e
    exact tel_ok h.toModOk TD
  have AS : AmbS { T with lsc := lsc } (P.gx (P.den k)) fa (XR1 fa) (2 * k + 1) (fun cls d _ H => E cls d H) X := by
    subst hXe
    exact { calm := fun _ => rfl
            nd := D.sc.nd
            room := fun _ => hr.mono (by omega)
            un := by
              have := hr.un
              show (A.deeper (envOfC qual scope s.heap.objs.size f cdv)).units + 65 < cLine
              omega
            takes := L2N.takes_of rfl rfl rfl rfl
            free := h.free
            cst := h.cst
            fns := fun j y e => by
              obtain ⟨g, e1, e2⟩ := h.fns j y e
              exact ⟨g, e1, e2, fun _ => h.mode e1⟩
            md := fun _ j g e => h.mode e
            exc := fun c x e => (h.exc c x e).elim fun C ⟨q1, q2, q3, q4, q5, q6⟩ => ⟨C, q1, q2, q3, q4, raises_own q5 q6⟩
            xr := fun F H c C e => ⟨rfl, C, e, rfl, rfl⟩
            xrr := fun F H x cls d z => z
            gcd := h.gcd
            sub := h.sub
            hotx := fun z => by
              have z : T.hot = true := z
              rw [h.cool] at z; cases z
            lamt := fun ns e1 _ => by
              obtain ⟨c, Q', r1, r2, r3, r4⟩ := hlam ns e1
              exact ⟨⟨c, Q', hT _ r2, r1, r3, r4⟩, hr.mono (by omega), room_two hr⟩
            tel := fun _ i x e => by
              exact htel i x e
            ok := fun _ => ih
            kind := D.sc.kind
            fnc := fun _ _ => rfl
            pass := passes_of rfl }
  have hb : PSs X body (tExS (P.gx (P.den k)) fa (XR1 fa) (fun cls d _ H => E cls d H) X fn.body) := (okS_all fn.body).2 X _ AS body (by subst hXe; exact D.chk)
  refine ⟨_, hb, F, as ++ List.replicate (N.length - as.length) .emp, ?_⟩
  have hXN : X.N = N := by subst hXe; rfl
  have hXK : X.K = K := by subst hXe; rfl
  rw [hXN, hXK]
  have hv : vs.length = as.length := by omega
  have hN : as.length ≤ N.length := by rw [l1, D.md]; exact hpl
  have S1 := S.enter (N := N) ha l1 hv hN
  refine ⟨by unfold L2.start; simp; omega, S1, ?_⟩
  simp only [Prg.den, D.at_] at q
  unfold runFn at q
  rw [D.n] at q
  -- every end, by the run's
  cases er : exS (P.gx (P.den k)) fn.body (as ++ List.replicate (N.length - as.length) .emp) with
  | bad => rw [er] at q; exact q.elim
  | exc y e =>
    rw [er] at q
    intro σ' F' H' cls d S' st' hx hlen
    have hl := S'.len
    obtain ⟨A1, A2, A3⟩ := leave (τ := []) (ws := []) S ha l1 hv hN (by simpa using S') hlen (by omega) (fun s hs => by cases hs) (by simpa using st')
    exact q F' H' cls d (by simpa using A1) (by simpa using A2) hx
  | ok z =>
    obtain ⟨fl, e⟩ := z
    rw [er] at q
    cases fl with
    | bk => exact q.elim
    | ct => exact q.elim
    | nx =>
      intro σ' F' H' S' st' hlen
      have hl := S'.len
      obtain ⟨A1, A2, A3⟩ := leave (τ := []) (ws := []) S ha l1 hv hN (by simpa using S') hlen (by omega) (fun s hs => by cases hs) (by simpa using st')
      simp only [List.append_nil] at A1 A2
      obtain ⟨B1, B2⟩ := (OpPost.val A1.fr (Rep.non (K := K) (fa := fa))).sim A1
      exact q .non F' H' B1 (A2.trans B2) A3
    | rt ww =>
      intro σ' v F' H' S' st' hlen
      have hl := S'.len
      simp only [List.length_append, List.length_singleton] at hl
      have go : ∀ {w' : Slot}, ww = w' → NoBor [w'] → (∀ v F' H', Sim K fa 0 F' H' (vs.map some ++ [some v]) (outsF fn.md e as ++ [w']) → Stp F H (vs.map some) as F' H' (vs.map some ++ [some v]) (outsF fn.md e as ++ [w']) → (outsF fn.md e as).length = as.length → Q v H') → Q v H' := fun {w'} z hw q => by
        subst z
        obtain ⟨A1, A2, A3⟩ := leave (τ := [some v]) (ws := [ww]) S ha l1 hv hN S' hlen (by omega) hw st'
        exact q v F' H' A1 A2 A3
      cases ww with
      | val u => exact go rfl (fun s hs j z => by simp at hs; subst hs; cases z) q
      | own u p =>
        cases p with
        | true => exact q.elim
        | false => exact go rfl nb_one q
      | emp => exact q.elim
      | bor _ => exact q.elim
theorem defs_ok (h : PrgOk P T K mg fa cs) (hT : ∀ p ∈ cs, LamX.TabB base mg p.1 p.2) : ∀ (k i : Nat) (f : Addr), fa i = some f → ∀ md, P.modes i = some md → ∃ fd ps, PySem.W.keepIn K (.ref f) = true ∧ Binds K fd ps [] ∧ FnOk prog w K mg base (L2N.CX prog w) (2 * k + 1) f fd ps (spF K fa (XR1 fa) (P.den k) i md)
  | 0, i, f, e, md, em => by
    obtain ⟨fn, x, qual, params, body, scope, fd, N, ps, lsc, D⟩ := h.defs i f e
    exact ⟨fd, ps, D.fun_.kp, D.bind, fun vs H Q E ⟨F, as, l1, l2, ha, S, q⟩ => q.elim, fun A outer s H args us vs Q E _ _ _ _ ⟨F, as, l1, l2, ha, S, q⟩ => q.elim⟩
  | k + 1, i, f, e, md, em => by
    obtain ⟨fn, x, qual, params, body, scope, fd, N, ps, lsc, D⟩ := h.defs i f e
    have : md = fn.md := by
      unfold Prg.modes at em
      rw [D.at_] at em
      exact (Option.some.inj em).symm
    subst this
    exact ⟨fd, ps, D.fun_.kp, D.bind, def_ok h hT (defs_ok h hT k) D⟩
end
end PF
end
section
set_option Elab.async false
set_option autoImplicit false
set_option linter.all false
set_option maxRecDepth 100000
namespace PF
open PySem PySem.Spec PyProof.Rows L2

/-- what nobody changes: all but the tables -/
def noTab (H : Hp) : Hp := fun a => match H a with
  | some (.tbl _) => none
  | o => o
theorem noTab_some {H : Hp} {a : Addr} {o : HO} (h : noTab H a = some o) : H a = some o ∧ ∀ ps, o ≠ .tbl ps := by
  unfold noTab at h
  split at h
  · cases h
  · rename_i hn
    exact ⟨h, fun ps z => hn ps (by rw [h, z])⟩
theorem noTab_of {H : Hp} {a : Addr} {o : HO} (h : H a = some o) (n : ∀ ps, o ≠ .tbl ps) : noTab H a = some o := by
  unfold noTab
  split
  · rename_i ps e
    rw [h] at e
    exact (n ps (Option.some.inj e)).elim
  · exact h
/-- a run that answers True keeps the promise -/
theorem law_sp {K : PySem.W.Frag} {fa : FA} {D : Den} {i : Nat} {H : Hp} {a : Addr} {ns : List Int} {os : List Slot} (ht : LamX.Tabs fa.tabs H) (hS : SqL K H a (ns.map V.int)) (hD : D i [.val (.scr (ns.map U.int))] = .ok (.val (.bl true), os)) :
    spF K fa (XR1 fa) D i [false] [.ref a] H (fun v _ => v = .bl true) fun _ _ _ => False := by
  have hS' : SqL K (noTab H) a (ns.map V.int) := by
    rcases hS with q | q
    · rcases q with q | ⟨ob, q⟩
      · exact .inl (.inl (noTab_of q fun ps z => by cases z))
      · exact .inl (.inr ⟨ob, noTab_of q fun ps z => by cases z⟩)
    · exact .inr q
  refine ⟨noTab H, [.val (.scr (ns.map U.int))], rfl, rfl, fun j => ⟨fun h => ?_, fun h => ?_⟩, ⟨rfl, fun a o e => (noTab_some e).1, fun j s e => ?_, fun i j a u u' p p' h1 h2 h3 h4 => ?_, ht, fun a ps e => (noTab_some e).2 ps rfl⟩, ?_⟩
  · match j, h with
    | 0, _ => exact ⟨_, rfl⟩
    | j + 1, h => simp at h
  · match j, h with
    | 0, h => cases h
    | j + 1, h => simp at h
  · match j, e with
    | 0, e => cases e; exact ⟨.ref a, rfl, .scr hS' (RepAll.of_ints ns)⟩
    | j + 1, e => simp at e
  · match i, h1 with
    | 0, h1 => cases h1
    | i + 1, h1 => simp at h1
  · rw [hD]
    intro v F' H' S _ hl
    obtain ⟨v', q1, q2⟩ := S.slot 1 (.val (.bl true)) (by
      have : os.length = 1 := hl
      rw [getR (by omega), this]; rfl)
    cases q1
    cases q2
    rfl
/-- the tables of the defs that make lambdas -/
def tabsOf (K : PySem.W.Frag) (tf : List (He.Defn × Str)) : List (Addr × Str) := tf.map fun p => ((He.cT K p.1).2, (p.2 ++ ".<locals>." : Str) ++ "<lambda>")
def csOf (K : PySem.W.Frag) (tf : List (He.Defn × Str)) : List (Addr × Addr) := tf.map fun p => He.cT K p.1
theorem tabs_empty {K : PySem.W.Frag} {tf : List (He.Defn × Str)} {H : Hp} (h : ∀ p ∈ csOf K tf, H p.2 = some (.tbl #[])) : LamX.Tabs (tabsOf K tf) H := fun p hp => by
  obtain ⟨d, hd, rfl⟩ := List.mem_map.mp hp
  exact LamX.TabS.nil (h _ (List.mem_map.mpr ⟨d, hd, rfl⟩))
/-- no two of them share a table -/
def lamsB (K : PySem.W.Frag) (tf : List (He.Defn × Str)) : Bool := decide (tf.map fun p => (He.cT K p.1).2).Nodup
theorem nodup_map {α β γ : Type} {f : α → β} {g : α → γ} : ∀ {l : List α}, (l.map f).Nodup → ∀ x ∈ l, ∀ y ∈ l, f x = f y → g x = g y
  | [], _, _, hx, _, _, _ => by cases hx
  | a :: l, h, x, hx, y, hy, e => by
    simp only [List.map_cons, List.nodup_cons] at h
    have h1 : ∀ z ∈ l, f z ≠ f a := fun z hz q => h.1 (q ▸ List.mem_map.mpr ⟨z, hz, rfl⟩)
    rcases List.mem_cons.mp hx with ex | ix <;> rcases List.mem_cons.mp hy with ey | iy
    · rw [ex, ey]
    · exact (h1 y iy (by rw [← e, ex])).elim
    · exact (h1 x ix (by rw [e, ey])).elim
    · exact nodup_map h.2 x ix y iy e
theorem lams_one {K : PySem.W.Frag} {tf : List (He.Defn × Str)} (h : lamsB K tf = true) {p : He.Defn} {q : Str} (hm : (p, q) ∈ tf) : ∀ z ∈ tabsOf K tf, z.1 = (He.cT K p).2 → z.2 = (q ++ ".<locals>." : Str) ++ "<lambda>" := fun z hz e => by
  obtain ⟨d, hd, rfl⟩ := List.mem_map.mp hz
  exact nodup_map (f := fun p => (He.cT K p.1).2) (g := fun p : He.Defn × Str => (p.2 ++ ".<locals>." : Str) ++ "<lambda>") (of_decide_eq_true h) d hd (p, q) hm e
/-- a def that makes lambdas: its code object, its table -/
theorem lam_def {K : PySem.W.Frag} {tf : List (He.Defn × Str)} {p : He.Defn} {x q : Str} {params : Arguments} {body : List Stmt} {scope : Scope} {dvs : List V} {kws : List (Str × V)} {fd : FuncData} (h : lamsB K tf = true) (F : FunD K x q params body scope dvs kws (He.fAd K p) fd) (hm : (p, q) ∈ tf) {ns : List (Str × NameKind)} :
    ∀ ms, some ns = some ms → ∃ c Q, fd.code = .ref c ∧ (c, Q) ∈ csOf K tf ∧ (Q, (q ++ ".<locals>." : Str) ++ "<lambda>") ∈ tabsOf K tf ∧ ∀ z ∈ tabsOf K tf, z.1 = Q → z.2 = (q ++ ".<locals>." : Str) ++ "<lambda>" := fun _ _ => by
  obtain ⟨oc, od, dV, kV, doc, pm, an, cdv, ct, osl, rfl, lk, hcd, _, _⟩ := F.ex
  obtain ⟨c, rfl⟩ := He.codeIn_ref hcd
  have e : He.codeOf K p = c := He.codeOf_eq lk rfl
  refine ⟨c, (He.cT K p).2, rfl, List.mem_map.mpr ⟨(p, q), hm, ?_⟩, List.mem_map.mpr ⟨(p, q), hm, rfl⟩, lams_one h hm⟩
  show He.cT K p = (c, (He.cT K p).2)
  unfold He.cT
  rw [e]
theorem no_lam {fd : FuncData} {cs : List (Addr × Addr)} {ts : List (Addr × Str)} {q : Str} : ∀ ms : List (Str × NameKind), none = some ms → ∃ c Q, fd.code = .ref c ∧ (c, Q) ∈ cs ∧ (Q, (q ++ ".<locals>." : Str) ++ "<lambda>") ∈ ts ∧ ∀ z ∈ ts, z.1 = Q → z.2 = (q ++ ".<locals>." : Str) ++ "<lambda>" := fun _ h => by cases h
theorem cx_false {prog : Program} {w : World} {H : Hp} {s : Shared} {e : Value} {s' : Shared} (h : L2N.CX prog w [] H s (fun _ _ _ => False) e s') : False := by
  unfold L2N.CX at h
  obtain ⟨_, _, _, _, _, _, _, _, _, _, _, _, z⟩ := h
  exact z
/-- the law's def, its promise by PF's run -/
theorem law_at {l : PySem.W.OpenLaw} {w : World} {P : Prg} {T : Tbl} {K : PySem.W.Frag} {mg : Str → Option Value} {tf : List (He.Defn × Str)} {f : Nat → Option Addr} {cls : Nat → Option Addr} {i : Nat} {a : Addr} {h : Heap} {fn : Fn} {x qual y : Str} {params : Arguments} {body : List Stmt} {scope : Scope} {fd : FuncData} {N : List Str} {lsc : Option (List (Str × NameKind))} {k : Nat}
    (KX : K.In h) (ok : PrgOk P T K mg ⟨f, tabsOf K tf, cls⟩ (csOf K tf)) (D : DefOk P T K ⟨f, tabsOf K tf, cls⟩ (csOf K tf) i a fn x qual params body scope fd N [y] lsc) (hmd : fn.md = [false])
    (he : ∀ p ∈ csOf K tf, h.get? p.2 = some { cls := .none, data := .fields #[] }) (ho : ∀ p ∈ csOf K tf, K.lookup p.2 = none) (hc : ∀ p ∈ csOf K tf, PySem.W.codeHdIn K p.1 p.2 = true)
    (hb : ∀ (s : Shared) (u : Value), BindsTo s fd ⟨[u], []⟩ [(y, u)])
    (main : ∀ ns : List Int, ns.length ≤ 63 → (∀ z ∈ ns, Builtin.Int.intBits z ≤ 1048576) → ∃ os, P.den (k + 1) i [.val (.scr (ns.map U.int))] = .ok (.val (.bl true), os)) :
    LamX.LawAtS l w K (L2N.CX l.prog w) (2 * (k + 1) + 1) 63 y mg a h :=
  ⟨fd, csOf K tf, spF K ⟨f, tabsOf K tf, cls⟩ (XR1 ⟨f, tabsOf K tf, cls⟩) (P.den (k + 1)) i [false], he, ho, fun p hp => PySem.W.codeHd_of_K KX (hc p hp), hb,
    fun H a ns hl hz hH hS => (main ns hl hz).elim fun os q => law_sp (tabs_empty hH) hS q, fun base _ _ TB => by
      have q := def_ok (base := base) (prog := l.prog) (w := w) ok TB (defs_ok ok TB k) D
      rw [hmd] at q
      exact q⟩
end PF
end
section
set_option Elab.async false
set_option autoImplicit false
set_option linter.all false
set_option maxRecDepth 100000
namespace PF
open PySem PySem.Spec PyProof.Rows L2

section
variable (K : PySem.W.Frag)
mutual
/-- a value of the module that nobody changes -/
def valB : U → Value → Bool
  | .non, .none => true
  | .bl b, .bool c => b == c
  | .int i, .int j _ => decide (i = j)
  | .str x, .str y _ => decide (x = y)
  | .tup us, .ref a => (match K.lookup a with
    | some ⟨.type c, _, .seq its _, _⟩ => decide (c = "tuple") && decide (its.size ≤ sizeLine) && valsB us its.toList
    | _ => false)
  | _, _ => false
def valsB : List U → List Value → Bool
  | [], [] => true
  | u :: us, v :: vs => valB u v && valsB us vs
  | _, _ => false
end
end
section
variable {K : PySem.W.Frag}
mutual
theorem valB_ok : ∀ (u : U) (v : Value), valB K u v = true → ∃ x : V, RelV x v ∧ ∀ (fa : FA) (F : Hp), Rep K fa F x u
  | .non, v, h => by cases v <;> first | (simp [valB] at h; done) | exact ⟨.non, rfl, fun _ _ => .non⟩
  | .bl b, v, h => by
    cases v <;> first | (simp [valB] at h; done) | skip
    simp only [valB, beq_iff_eq] at h
    subst h
    exact ⟨.bl _, rfl, fun _ _ => .bl _⟩
  | .int i, v, h => by
    cases v <;> first | (simp [valB] at h; done) | skip
    simp only [valB, decide_eq_true_eq] at h
    subst h
    exact ⟨.int _, ⟨_, rfl⟩, fun _ _ => .int _⟩
  | .str i, v, h => by
    cases v <;> first | (simp [valB] at h; done) | skip
    simp only [valB, decide_eq_true_eq] at h
    subst h
    exact ⟨.str _, ⟨_, rfl⟩, fun _ _ => .str _⟩
  | .tup us, v, h => by
    cases v <;> first | (simp [valB] at h; done) | skip
    rename_i a
    simp only [valB] at h
    split at h
    · rename_i c od its n osl q
      simp only [Bool.and_eq_true, decide_eq_true_eq] at h
      obtain ⟨⟨h1, h2⟩, h3⟩ := h
      obtain ⟨xs, r1, r2⟩ := valsB_ok us its.toList h3
      exact ⟨.ref a, rfl, fun fa F => .tup (.inr ⟨_, its, n, q, by rw [h1], rfl, h2, r1⟩) (r2 fa F)⟩
    · cases h
  | .lst _, v, h => by cases v <;> simp [valB] at h
  | .dic _, v, h => by cases v <;> simp [valB] at h
  | .fn _, v, h => by cases v <;> simp [valB] at h
  | .scr _, v, h => by cases v <;> simp [valB] at h
theorem valsB_ok : ∀ (us : List U) (vs : List Value), valsB K us vs = true → ∃ xs : List V, Vals xs vs ∧ ∀ (fa : FA) (F : Hp), RepAll K fa F xs us
  | [], [], _ => ⟨[], .nil, fun _ _ => .nil⟩
  | [], _ :: _, h => by simp [valsB] at h
  | _ :: _, [], h => by simp [valsB] at h
  | u :: us, v :: vs, h => by
    simp only [valsB, Bool.and_eq_true] at h
    obtain ⟨x, a1, a2⟩ := valB_ok u v h.1
    obtain ⟨xs, b1, b2⟩ := valsB_ok us vs h.2
    exact ⟨x :: xs, .cons a1 b1, fun fa F => .cons (a2 fa F) (b2 fa F)⟩
end
/-- the module's name x has this value -/
def constB (K : PySem.W.Frag) (x : Str) (u : U) : Bool := match PySem.W.nsIn K mainGlobals x with
  | some (some v) => valB K u v
  | _ => false
theorem const_at {h : Heap} {mg : Str → Option Value} (X : K.In h) (G : h.Ns mainGlobals mg) {x : Str} {u : U} (c : constB K x u = true) : ∃ val v, mg x = some val ∧ RelV v val ∧ ∀ (fa : FA) (F : Hp), Rep K fa F v u := by
  unfold constB at c
  split at c
  · rename_i v e
    obtain ⟨y, r1, r2⟩ := valB_ok u v c
    exact ⟨v, y, PySem.W.mg_of X G e, r1, r2⟩
  · cases c
/-- a class of exceptions -/
def clsOk (K : PySem.W.Frag) (ca x : Str) : Bool :=
  He.eqO (PySem.W.nsIn K mainGlobals x) (some (some (.ref (He.ga K x)))) && (PySem.W.excIn K (He.ga K x) veB "ValueError.__new__" && (PySem.W.keepIn K (.ref (He.ga K x)) && (decide (PySem.W.subIn K (.ref (He.ga K x)) (.type "BaseException") = some true) && (decide (PySem.W.typeIn K (.ref (He.ga K x)) = some (.type "type")) &&
  (decide (PySem.W.exmOne K (.ref (He.ga K x)) (.ref (He.ga K ca)) = some true) && (decide (PySem.W.findIn K (.ref (He.ga K x)) "__getattribute__" = some (some (.builtin "BaseException.__getattribute__"))) && (decide (PySem.W.findIn K (.ref (He.ga K x)) "__getattr__" = some none) && (PySem.W.hasDictIn K (He.ga K x) &&
  (decide (PySem.W.findIn K (.ref (He.ga K x)) "__class__" = some (some (.builtin "object.__class__"))) && (decide (PySem.W.specialIn K (.builtin "object.__class__") "__get__" = some (some (.builtin "getset_descriptor.__get__"))) && (decide (PySem.W.takesIn K (.builtin "object.__class__") = some true) && decide (PySem.W.mroIn K (He.ga K x) (.type "object") = some true))))))))))))
structure ClsOk (K : PySem.W.Frag) (ca x : Str) : Prop where
  ns : PySem.W.nsIn K mainGlobals x = some (some (.ref (He.ga K x)))
  exc : PySem.W.excIn K (He.ga K x) veB "ValueError.__new__" = true
  keep : PySem.W.keepIn K (.ref (He.ga K x)) = true
  sub : PySem.W.subIn K (.ref (He.ga K x)) (.type "BaseException") = some true
  ty : PySem.W.typeIn K (.ref (He.ga K x)) = some (.type "type")
  exm : PySem.W.exmOne K (.ref (He.ga K x)) (.ref (He.ga K ca)) = some true
  c : L2.ExcC K (He.ga K x)
theorem clsOk_of {ca x : Str} (h : clsOk K ca x = true) : ClsOk K ca x := by
  unfold clsOk at h
  simp only [Bool.and_eq_true, decide_eq_true_eq] at h
  obtain ⟨h1, h2, h3, h4, h5, h6, h7, h8, h9, h10, h11, h12, h13⟩ := h
  exact ⟨He.eqO_ok h1, h2, h3, h4, h5, h6, ⟨h7, h8, h4, h9, h10, h11, h12, h13⟩⟩
def subOk (K : PySem.W.Frag) (P : Prg) (xs : List Str) : Bool := (List.range xs.length).all fun d => (List.range xs.length).all fun c => match xs[d]?, xs[c]?, P.sub d c with
  | some x, some y, some b => decide (PySem.W.kitOne K (.ref (He.ga K x)) (.ref (He.ga K y)) = some b)
  | _, _, _ => true
theorem subOk_of {P : Prg} {xs : List Str} (h : subOk K P xs = true) {d c : Nat} {x y : Str} {b : Bool} (e1 : xs[d]? = some x) (e2 : xs[c]? = some y) (e3 : P.sub d c = some b) : PySem.W.kitOne K (.ref (He.ga K x)) (.ref (He.ga K y)) = some b := by
  have h1 := List.all_eq_true.mp (List.all_eq_true.mp h d (List.mem_range.mpr (ltOf e1))) c (List.mem_range.mpr (ltOf e2))
  rw [e1, e2, e3] at h1
  exact of_decide_eq_true h1
/-- what is told of all of them -/
def excsOk (K : PySem.W.Frag) (P : Prg) (T : Tbl) (ca : Str) : Bool := T.exc.all (clsOk K ca) && subOk K P T.exc
/-- all names, by their kinds -/
def freeOk (K : PySem.W.Frag) (T : Tbl) : Bool := T.free.all fun x => He.eqO (PySem.W.nsIn K mainGlobals x) (some none)
def gloOk (K : PySem.W.Frag) (xs : List Str) : Bool := xs.all fun x => He.eqO (PySem.W.nsIn K mainGlobals x) (some (some (.ref (He.ga K x))))
def cstOk (K : PySem.W.Frag) : List Str → List U → Bool
  | [], [] => true
  | x :: xs, u :: us => constB K x u && cstOk K xs us
  | _, _ => false
theorem cstOk_at {h : Heap} {mg : Str → Option Value} (X : K.In h) (G : h.Ns mainGlobals mg) : ∀ {xs : List Str} {us : List U}, cstOk K xs us = true → ∀ (i : Nat) (x : Str), xs[i]? = some x → ∃ u val v, us[i]? = some u ∧ mg x = some val ∧ RelV v val ∧ ∀ (fa : FA) (F : Hp), Rep K fa F v u
  | [], [], _, i, x, e => by simp at e
  | [], _ :: _, h, _, _, _ => by simp [cstOk] at h
  | _ :: _, [], h, _, _, _ => by simp [cstOk] at h
  | y :: xs, w :: us, h, i, x, e => by
    simp only [cstOk, Bool.and_eq_true] at h
    cases i with
    | zero =>
      simp at e
      subst e
      obtain ⟨val, v, q1, q2, q3⟩ := const_at X G h.1
      exact ⟨w, val, v, rfl, q1, q2, q3⟩
    | succ i =>
      obtain ⟨u, val, v, q⟩ := cstOk_at X G h.2 i x (by simpa using e)
      exact ⟨u, val, v, by simpa using q⟩
/-- the addresses by the names -/
def faOf (K : PySem.W.Frag) (T : Tbl) : Nat → Option Addr := fun i => (T.fns[i]?).map fun x => He.ga K x
def clsF (K : PySem.W.Frag) (T : Tbl) : Nat → Option Addr := fun i => (T.exc[i]?).map fun x => He.ga K x
/-- all that the Hook's own test tells -/
def restB (P : Prg) (T : Tbl) (ca : Str) (tf : List (He.Defn × Str)) (K : PySem.W.Frag) : Bool := freeOk K T && (gloOk K T.fns && (cstOk K T.cst P.cst && (excsOk K P T ca && lamsB K tf)))
theorem mod_ok {P : Prg} {T : Tbl} {ca : Str} {tf : List (He.Defn × Str)} {h : Heap} {mg : Str → Option Value} (X : K.In h) (G : h.Ns mainGlobals mg) (c : restB P T ca tf K = true) (hg : T.gcd = true → mg "gcd" = some (.builtin "math.gcd")) (hn : T.fns.length ≤ hotN) : ModOk P T K mg ⟨faOf K T, tabsOf K tf, clsF K T⟩ := by
  unfold restB at c
  simp only [Bool.and_eq_true] at c
  obtain ⟨c1, c2, c3, c4, c5⟩ := c
  unfold excsOk at c4
  simp only [Bool.and_eq_true] at c4
  have cl : ∀ {i : Nat} {C : Addr}, clsF K T i = some C → ∃ x, T.exc[i]? = some x ∧ C = He.ga K x ∧ ClsOk K ca x := fun {i C} e => by
    unfold clsF at e
    obtain ⟨x, e1, e2⟩ := Option.map_eq_some_iff.mp e
    exact ⟨x, e1, e2.symm, clsOk_of (List.all_eq_true.mp c4.1 x (List.mem_of_getElem? e1))⟩
  exact { free := fun x hx => PySem.W.mg_none_of X G (He.eqO_ok (List.all_eq_true.mp c1 x (by simpa using hx)))
          cst := fun i x e => by
            obtain ⟨u, val, v, q1, q2, q3, q4⟩ := cstOk_at X G c3 i x e
            exact ⟨u, val, v, q1, q2, q3, q4 _⟩
          fns := fun i x e => ⟨He.ga K x, by show (T.fns[i]?).map (fun x => He.ga K x) = _; rw [e]; rfl, PySem.W.mg_of X G (He.eqO_ok (List.all_eq_true.mp c2 x (List.mem_of_getElem? e)))⟩
          hot := by
            show (T.fns[hotN]?).map (fun x => He.ga K x) = none
            rw [List.getElem?_eq_none hn]
            rfl
          exc := fun c x e => by
            have k := clsOk_of (List.all_eq_true.mp c4.1 x (List.mem_of_getElem? e))
            exact ⟨He.ga K x, by show (T.exc[c]?).map (fun x => He.ga K x) = _; rw [e]; rfl, PySem.W.mg_of X G k.ns, k.exc, k.keep, k.sub, k.ty⟩
          gcd := hg
          sub := fun d c b C C' e1 e2 e3 => by
            obtain ⟨x, x1, rfl, _⟩ := cl e1
            obtain ⟨y, y1, rfl, _⟩ := cl e2
            exact subOk_of c4.2 x1 y1 e3
          excc := fun c C e => by
            obtain ⟨x, x1, rfl, k⟩ := cl e
            exact k.c }
theorem exm_ok {P : Prg} {T : Tbl} {ca : Str} {tf : List (He.Defn × Str)} (c : restB P T ca tf K = true) : ∀ i C, clsF K T i = some C → PySem.W.exmOne K (.ref C) (.ref (He.ga K ca)) = some true := fun i C e => by
  unfold restB excsOk at c
  simp only [Bool.and_eq_true] at c
  unfold clsF at e
  obtain ⟨x, e1, e2⟩ := Option.map_eq_some_iff.mp e
  subst e2
  exact (clsOk_of (List.all_eq_true.mp c.2.2.2.1.1 x (List.mem_of_getElem? e1))).exm
end
/-- the text of a def that tells -/
def telB (T : Tbl) (t : Tel) (Ng : List Str) (sg : Scope) (a e n : Str) : List Stmt → Bool
  | [.Try [.Expr (.Call (.Name a' _) [] [] _) _] [.ExceptHandler (some (.Name e' _)) (some n') (b0 :: suite) _] [] [] _, .Return (some (.Constant (.str d) _ _)) _] =>
    decide (a' = a) && (decide (e' = e) && (decide (n' = n) && (decide (d = t.dflt) && chkB { T with hot := true, lsc := none } Ng t.suite sg (b0 :: suite))))
  | _ => false
theorem telB_of {T : Tbl} {t : Tel} {Ng : List Str} {sg : Scope} {a e n : Str} {bg : List Stmt} (h : telB T t Ng sg a e n bg = true) :
    ∃ p1 p2 p3 np b0 suite hp tp j q1 q2, bg = [.Try [.Expr (.Call (.Name a p1) [] [] p2) p3] [.ExceptHandler (some (.Name e np)) (some n) (b0 :: suite) hp] [] [] tp, .Return (some (.Constant (.str t.dflt) j q1)) q2] ∧
      chkB { T with hot := true, lsc := none } Ng t.suite sg (b0 :: suite) = true := by
  unfold telB at h
  split at h
  · simp only [Bool.and_eq_true, decide_eq_true_eq] at h
    obtain ⟨rfl, rfl, rfl, rfl, h⟩ := h
    exact ⟨_, _, _, _, _, _, _, _, _, _, _, rfl, h⟩
  · cases h
/-- the names of a def that tells -/
def telN (t : Tel) (Ng : List Str) (sg : Scope) (a e n : Str) : Bool :=
  decide (Ng[0]? = some a) && (visB sg a && (!(a == ("__debug__" : Str)) && (!(a == ("__classdict__" : Str)) && (decide (t.n = Ng.length) && (decide (Ng[t.ex]? = some n) && (decide (sg.names.lookup n = some .local) && (decide (sg.names.lookup e = some .globalImplicit) && !(e == ("__debug__" : Str)))))))))
theorem tel_d {P : Prg} {T : Tbl} {K : PySem.W.Frag} {mg : Str → Option Value} {fa : FA} {i : Nat} {x : Str} {g : Addr} {pg : Arguments} {bg : List Stmt} {sg : Scope} {fd : FuncData} {Ng : List Str} {a : Str} {t : Tel} {e n : Str} {CA : Addr}
    (at_ : P.tels[i]? = some t) (mgx : mg x = some (.ref g)) (fun_ : FunD K x x pg bg sg [] [] g fd) (bind : Binds K fd [a] []) (sc : FnScope Ng [a] sg) (hN : telN t Ng sg a e n = true) (hB : telB T t Ng sg a e n bg = true) (em : mg e = some (.ref CA)) (exm : ∀ c C, fa.cls c = some C → PySem.W.exmOne K (.ref C) (.ref CA) = some true) :
    TelD P T K mg fa i x g pg bg sg fd Ng a t e n CA := by
  unfold telN at hN
  simp only [Bool.and_eq_true, decide_eq_true_eq, Bool.not_eq_true'] at hN
  obtain ⟨h1, h2, h3, h4, h5, h6, h7, h8, h9⟩ := hN
  refine ⟨at_, mgx, fun_, bind, sc, h1, ?_, h3, h4, h5, h6, h7, h8, h9, em, telB_of hB, exm⟩
  unfold visB at h2
  split at h2
  · rename_i q; exact .inl q
  · rename_i q; exact .inr (.inl q)
  · rename_i q; exact .inr (.inr q)
  · cases h2
/-- the way from the head -/
theorem walk_tabs {l : PySem.W.OpenLaw} {n k : Nat} {q : Program} {loose : List Str} {XP : (Str → Option Value) → Heap → Prop} {YP : World → Heap → Prop} {d : DefRec} {CX : World → CXT} {x : Str} (hn : l.most = some n) (hn2 : n ≤ sizeLine) (hdf : d.params.defaults = []) (hr : Room k callerA)
    (F : ∀ (w : World) (mg : Str → Option Value) (fa : Addr) (h : Heap), XP mg h → YP w h → h.Ns mainGlobals mg → mg d.name = some (.ref fa) → ∃ K : PySem.W.Frag, K.In h ∧ LamX.LawAtS l w K (CX w) k n x mg fa h)
    (hCX : ∀ (w : World) (H : Hp) (s : Shared) (e : Value) (s' : Shared), CX w [] H s (fun _ _ _ => False) e s' → False) : PySem.W.WalkO q loose XP YP l.row.toRowW d [] (fun f vs => PySem.call f vs) :=
  Att.attach_callB hn hdf fun w s₀ s₁ mg mb f o pm cd doc a vs ns G Y ho hd hcd hmg hobj hints hlen hbits hg => by
    obtain ⟨K, KX, fd, cs, sp, hT, nT, C, hb, hsp, hF⟩ := F w mg f _ G.X Y G.T.g hmg
    exact LamX.law_callTs KX G.T.g G.T.b G.T.builtins G.T.nolimit hg hT nT C G.T.bmain hobj hints (Nat.le_trans hlen hn2) hr hF hb (fun H hH hS => hsp H a ns hlen hbits hH hS) fun H e s' => hCX w H s₁ e s'
/-- gcd as the module draws it -/
theorem gcd_of {q : Program} {mg : Str → Option Value} {h : Heap} (X : PySem.W.XL q [] mg h) (hx : (Flt.mathDrawn q).lookup ("gcd" : Str) = some (.fn "math.gcd")) : mg "gcd" = some (.builtin "math.gcd") := X.1.drawn _ (Flt.mem_of_lookup hx)
end PF
end
section
set_option Elab.async false
set_option autoImplicit false
set_option linter.all false
set_option maxRecDepth 100000
namespace PF
open PySem PySem.Spec PyProof.Rows L2

section
variable {r : En → Res (Slot × En)} {env : En}
theorem condF_cmp {o : COp} {a b : E} : condF (.cmp o a b) r env = (r env).bind fun (p, env) => (Res.of (look env p)).bind fun u => (Res.of u.tru).bind fun k => .ok (k, env) := rfl
theorem condF_chn {o o' : COp} {a b c : E} : condF (.chn o o' a b c) r env = (r env).bind fun (p, env) => (Res.of (look env p)).bind fun u => (Res.of u.tru).bind fun k => .ok (k, env) := rfl
theorem condF_not {a : E} : condF (.not a) r env = (r env).bind fun (p, env) => (Res.of (look env p)).bind fun u => (Res.of u.tru).bind fun k => .ok (k, env) := rfl
theorem condF_and {a b : E} : condF (.and a b) r env = (r env).bind fun (p, env) => (Res.of (look env p)).bind fun u => (Res.of u.tru).bind fun k => .ok (k, env) := rfl
theorem condF_or {a b : E} : condF (.or a b) r env = (r env).bind fun (p, env) => (Res.of (look env p)).bind fun u => (Res.of u.tru).bind fun k => .ok (k, env) := rfl
theorem condF_call {f : Nat} {es : E} : condF (.call f es) r env = (r env).bind fun (p, env) => (Res.of (look env p)).bind fun u => (Res.of u.tru).bind fun k => .ok (k, env) := rfl
theorem condF_ist {t : TyN} {a : E} : condF (.ist t a) r env = (r env).bind fun (p, env) => (Res.of (look env p)).bind fun u => (Res.of u.tru).bind fun k => .ok (k, env) := rfl
theorem condF_var {i : Nat} : condF (.var i) r env = (r env).bind fun (p, env) => (Res.of (look env p)).bind fun u => (Res.of u.tru).bind fun k => .ok (k, env) := rfl
theorem condF_bor {i : Nat} : condF (.bor i) r env = (r env).bind fun (p, env) => (Res.of (look env p)).bind fun u => (Res.of u.tru).bind fun k => .ok (k, env) := rfl
theorem condF_nil : condF .nil r env = .ok (true, env) := rfl
theorem partF_nil : partF .nil r env = .ok (none, env) := rfl
theorem partF_neg {a : E} : partF (.neg a) r env = (r env).bind fun (p, env) => match look env p with
    | some (.int i) => .ok (some i, env)
    | _ => .bad := rfl
theorem partF_var {i : Nat} : partF (.var i) r env = (r env).bind fun (p, env) => match look env p with
    | some (.int i) => .ok (some i, env)
    | _ => .bad := rfl
theorem partF_con {u : U} : partF (.con u) r env = (r env).bind fun (p, env) => match look env p with
    | some (.int i) => .ok (some i, env)
    | _ => .bad := rfl
theorem partF_bin {o : BOp} {a b : E} : partF (.bin o a b) r env = (r env).bind fun (p, env) => match look env p with
    | some (.int i) => .ok (some i, env)
    | _ => .bad := rfl
end
section
variable {G : Gx} {env : En}
theorem evE_var {i : Nat} : evE G (.var i) env = (match env[i]? with
    | some (.val u) => .ok (.val u, env)
    | some (.own u false) => .ok (.val u, env.set i (.val u))
    | _ => .bad) := rfl
theorem evE_bor {i : Nat} : evE G (.bor i) env = (match env[i]? with
    | some (.val _) => .ok (.bor i, env)
    | some (.own _ _) => .ok (.bor i, env)
    | _ => .bad) := rfl
theorem evE_mov {i : Nat} : evE G (.mov i) env = (match env[i]? with
    | some (.val u) => .ok (.val u, env)
    | some (.own u false) => .ok (.own u false, env.set i .emp)
    | _ => .bad) := rfl
theorem evE_con {u : U} : evE G (.con u) env = .ok (.val u, env) := rfl
theorem evE_glc {k : Nat} : evE G (.glc k) env = (Res.of G.cst[k]?).bind fun u => .ok (.val u, env) := rfl
theorem evE_fnr {i : Nat} : evE G (.fnr i) env = .ok (.val (.fn i), env) := rfl
theorem evE_tup {es : E} : evE G (.tup es) env = (evL G es env).bind fun (ws, env) => (Res.of (frzs ws)).bind fun us => if us.length ≤ sizeLine then .ok (.val (.tup us), env) else .bad := rfl
theorem evE_lst {es : E} : evE G (.lst es) env = (evL G es env).bind fun (ws, env) => (Res.of (frzs ws)).bind fun us => if us.length ≤ sizeLine then .ok (.own (.lst us) false, env) else .bad := rfl
theorem evE_dic0  : evE G (.dic0) env = .ok (.own (.dic []) false, env) := rfl
theorem evE_bin {op : BOp} {a b : E} : evE G (.bin op a b) env = (evE G a env).bind fun (p, env) => (evE G b env).bind fun (q, env) =>
    (Res.of (look env p)).bind fun u => (Res.of (look env q)).bind fun v => (Res.of (opF op u v)).bind fun w => .ok (w, env) := rfl
theorem evE_neg {a : E} : evE G (.neg a) env = (evE G a env).bind fun (p, env) => (match look env p with
    | some (.int i) => .ok (.val (.int (-i)), env)
    | _ => .bad) := rfl
theorem evE_not {a : E} : evE G (.not a) env = (evE G a env).bind fun (p, env) => (Res.of (look env p)).bind fun u => (Res.of u.tru).bind fun b => .ok (.val (.bl (!b)), env) := rfl
theorem evE_cmp {op : COp} {a b : E} : evE G (.cmp op a b) env = (evE G a env).bind fun (p, env) => (evE G b env).bind fun (q, env) =>
    (Res.of (look env p)).bind fun u => (Res.of (look env q)).bind fun v => (Res.of (cmpF op u v)).bind fun w => .ok (.val (.bl w), env) := rfl
theorem evE_chn {op op' : COp} {a b c : E} : evE G (.chn op op' a b c) env = (evE G a env).bind fun (p, env) => (evE G b env).bind fun (q, env) =>
    (Res.of (look env p)).bind fun u => (Res.of (look env q)).bind fun v => (Res.of (cmpF op u v)).bind fun w =>
    if w then (evE G c env).bind fun (r, env) => (Res.of (look env q)).bind fun v => (Res.of (look env r)).bind fun x => (Res.of (cmpF op' v x)).bind fun w => .ok (.val (.bl w), env)
    else .ok (.val (.bl false), env) := rfl
theorem evE_and {a b : E} : evE G (.and a b) env = (evE G a env).bind fun (p, env) => (Res.of (frz p)).bind fun u => (Res.of u.tru).bind fun k => if k then evE G b env else .ok (.val u, env) := rfl
theorem evE_or {a b : E} : evE G (.or a b) env = (evE G a env).bind fun (p, env) => (Res.of (frz p)).bind fun u => (Res.of u.tru).bind fun k => if k then .ok (.val u, env) else evE G b env := rfl
theorem evE_ite {c a b : E} : evE G (.ite c a b) env = (evE G c env).bind fun (p, env) => (Res.of (look env p)).bind fun u => (Res.of u.tru).bind fun k => if k then evE G a env else evE G b env := rfl
theorem evE_call {f : Nat} {es : E} : evE G (.call f es) env = (evL G es env).bind fun (ws, env) => callD G f ws env := rfl
theorem evE_cvar {i : Nat} {es : E} : evE G (.cvar i es) env = (match env[i]? with
    | some (.val (.fn f)) => (evL G es env).bind fun (ws, env) => callD G f ws env
    | _ => .bad) := rfl
theorem evE_blt {b : Blt} {es : E} : evE G (.blt b es) env = (evL G es env).bind fun (ws, env) => (Res.of (looks env ws)).bind fun us => (Res.of (bltF b us)).bind fun w => .ok (w, env) := rfl
theorem evE_ist {t : TyN} {a : E} : evE G (.ist t a) env = (evE G a env).bind fun (p, env) => (Res.of (look env p)).bind fun u => (Res.of (istF t u)).bind fun b => .ok (.val (.bl b), env) := rfl
theorem evE_idx {a b : E} : evE G (.idx a b) env = (evE G a env).bind fun (p, env) => (evE G b env).bind fun (q, env) =>
    (Res.of (look env p)).bind fun u => (Res.of (look env q)).bind fun v => (Res.of (idxF u v)).bind fun w => .ok (.val w, env) := rfl
theorem evE_slc {a lo hi : E} : evE G (.slc a lo hi) env = (evE G a env).bind fun (p, env) => (partF lo (evE G lo) env).bind fun (l, env) => (partF hi (evE G hi) env).bind fun (h, env) =>
    (Res.of (look env p)).bind fun u => (Res.of (slcF u l h)).bind fun w => .ok (w, env) := rfl
theorem evE_lrg {k : ItK} {es : E} : evE G (.lrg k es) env = (evL G es env).bind fun (ws, env) => (Res.of (looks env ws)).bind fun us => (Res.of (itF k us)).bind fun xs => if xs.length ≤ sizeLine then .ok (.own (.lst xs) false, env) else .bad := rfl
theorem evE_trg {k : ItK} {es : E} : evE G (.trg k es) env = (evL G es env).bind fun (ws, env) => (Res.of (looks env ws)).bind fun us => (Res.of (itF k us)).bind fun xs => if xs.length ≤ sizeLine then .ok (.val (.tup xs), env) else .bad := rfl
theorem evE_cmp1 {vs : List Nat} {tg it c elt : E} : evE G (.cmp1 vs tg it c elt) env = (evI G it env).bind fun (xs, env) =>
    if vs.all (okS env) then
      (noExc (compGo (turnC vs tg c (evE G c) (evE G elt)) xs (wipeE env vs))).bind fun (us, e) =>
      if us.length ≤ sizeLine then .ok (.own (.lst us) false, unwipe env e vs) else .bad
    else .bad := rfl
theorem evE_lam {f : Nat} {e : E} : evE G (.lam f e) env = (match evE G e env with
    | .ok (_, env) => (Res.of (G.tel f none)).bind fun u => .ok (.val (.str u), env)
    | .exc x env => (Res.of (G.tel f (some x))).bind fun u => .ok (.val (.str u), env)
    | .bad => .bad) := rfl
theorem evE_join {a b : E} : evE G (.join a b) env = (evE G a env).bind fun (p, env) => (evE G b env).bind fun (q, env) =>
    (Res.of (look env p)).bind fun u => (Res.of (look env q)).bind fun v => (Res.of (joinF u v)).bind fun w => .ok (.val w, env) := rfl
theorem evE_gcd {a b : E} : evE G (.gcd a b) env = (evE G a env).bind fun (p, env) => (evE G b env).bind fun (q, env) =>
    (Res.of (look env p)).bind fun u => (Res.of (look env q)).bind fun v => (Res.of (gcdF u v)).bind fun w => .ok (.val w, env) := rfl
theorem exS_rse {c : Nat} : exS G (.rse c) env = .exc ⟨c, []⟩ env := rfl
theorem exS_nil  : exS G (.nil) env = .ok (.nx, env) := rfl
theorem exS_seq {a r : S} : exS G (.seq a r) env = (exS G a env).bind fun (f, env) => (match f with
    | .nx => exS G r env
    | f => .ok (f, env)) := rfl
theorem exS_pas  : exS G (.pas) env = .ok (.nx, env) := rfl
theorem exS_brk  : exS G (.brk) env = .ok (.bk, env) := rfl
theorem exS_cnt  : exS G (.cnt) env = .ok (.ct, env) := rfl
theorem exS_set {i : Nat} {e : E} : exS G (.set i e) env = (evE G e env).bind fun (w, env) => (Res.of (frz w)).bind fun u => (Res.of (put env i (.val u))).bind fun env => .ok (.nx, env) := rfl
theorem exS_own {i : Nat} {e : E} : exS G (.own i e) env = (evE G e env).bind fun (w, env) => (Res.of (keepF env i w)).bind fun env => .ok (.nx, env) := rfl
theorem exS_unp {tg e : E} : exS G (.unp tg e) env = (evE G e env).bind fun (w, env) => (Res.of (frz w)).bind fun u => (Res.of (storeU tg u env)).bind fun env => .ok (.nx, env) := rfl
theorem exS_par {ts es : E} : exS G (.par ts es) env = (evL G es env).bind fun (ws, env) => (Res.of (parF ts ws env)).bind fun env => .ok (.nx, env) := rfl
theorem exS_par2 {i j : Nat} {k l a b : E} : exS G (.par2 i k j l a b) env = (evL G (.cons a (.cons b .nil)) env).bind fun (ws, env) => (Res.of (frzs ws)).bind fun us => match us with
    | [u, v] => if ownB env i then
        (evE G k env).bind fun (r, env) => (Res.of (look env r)).bind fun x => (Res.of (subE env i x u)).bind fun env =>
        if ownB env j then (evE G l env).bind fun (r, env) => (Res.of (look env r)).bind fun x => (Res.of (subE env j x v)).bind fun env => .ok (.nx, env)
        else .bad
      else .bad
    | _ => .bad := rfl
theorem exS_sub {i : Nat} {k e : E} : exS G (.sub i k e) env = (evE G e env).bind fun (w, env) => (Res.of (frz w)).bind fun u => if ownB env i then (evE G k env).bind fun (r, env) => (Res.of (look env r)).bind fun x =>
    (Res.of (subE env i x u)).bind fun env => .ok (.nx, env) else .bad := rfl
theorem exS_app {i : Nat} {e : E} : exS G (.app i e) env = if ownL env i then (evE G e env).bind fun (w, env) => (Res.of (frz w)).bind fun u => (Res.of (appE env i u)).bind fun env => .ok (.nx, env) else .bad := rfl
theorem exS_exp {e : E} : exS G (.exp e) env = (evE G e env).bind fun (_, env) => .ok (.nx, env) := rfl
theorem exS_ret {e : E} : exS G (.ret e) env = (evE G e env).bind fun (w, env) => (match w with
    | .bor _ => .bad
    | w => .ok (.rt w, env)) := rfl
theorem exS_retn  : exS G (.retn) env = .ok (.rt (.val .non), env) := rfl
theorem exS_iff {c : E} {a b : S} : exS G (.iff c a b) env = (condF c (evE G c) env).bind fun (k, env) => if k then exS G a env else exS G b env := rfl
theorem exS_for_ {tg it : E} {b : S} : exS G (.for_ tg it b) env = (evI G it env).bind fun (xs, env) => forGo (fun x env => (Res.of (storeU tg x env)).bind fun env => exS G b env) xs env := rfl
theorem exS_whl {c : E} {b : S} : exS G (.whl c b) env = whlGo (condF c (evE G c)) (exS G b) fuel env := rfl
end
/-- a comprehension whose turns leave the places as they are -/
theorem compGo_map {turn : U → En → Res (Option U × En)} {e : En} {f : U → U} : ∀ {us : List U}, (∀ x ∈ us, turn x e = .ok (some (f x), e)) → compGo turn us e = .ok (us.map f, e)
  | [], _ => rfl
  | x :: r, h => by
    unfold compGo
    have ih := compGo_map (us := r) (fun y hy => h y (by simp [hy]))
    rw [h x (by simp), Res.bind_ok]
    show (compGo turn r e).bind _ = _
    rw [ih]
    rfl
theorem compGo_filter {turn : U → En → Res (Option U × En)} {e : En} {g : U → Option U} : ∀ {us : List U}, (∀ x ∈ us, turn x e = .ok (g x, e)) → compGo turn us e = .ok (us.filterMap g, e)
  | [], _ => rfl
  | x :: r, h => by
    unfold compGo
    have ih := compGo_filter (us := r) (fun y hy => h y (by simp [hy]))
    rw [h x (by simp), Res.bind_ok]
    show (compGo turn r e).bind _ = _
    rw [ih]
    cases q : g x <;> simp [List.filterMap_cons, q]
/-- a loop that runs to its end: what holds at each turn -/
theorem forGo_inv {turn : U → En → Res (Fl × En)} (P : Nat → En → Prop) : ∀ {us : List U} {n : Nat} {e : En}, P n e → (∀ i x e, us[i]? = some x → P (n + i) e → ∃ e', turn x e = .ok (.nx, e') ∧ P (n + i + 1) e') → ∃ e', forGo turn us e = .ok (.nx, e') ∧ P (n + us.length) e'
  | [], n, e, h, _ => ⟨e, rfl, h⟩
  | x :: r, n, e, h, hs => by
    obtain ⟨e1, h1, h2⟩ := hs 0 x e rfl h
    obtain ⟨e2, h3, h4⟩ := forGo_inv P (us := r) (n := n + 1) (e := e1) h2 fun i y e q p => by
      have := hs (i + 1) y e (by simpa using q) (by rw [show n + (i + 1) = n + 1 + i by omega]; exact p)
      rw [show n + (i + 1) + 1 = n + 1 + i + 1 by omega] at this
      exact this
    refine ⟨e2, ?_, by rw [show n + (x :: r).length = n + 1 + r.length by simp; omega]; exact h4⟩
    unfold forGo
    rw [h1, Res.bind_ok]
    exact h3
section
variable {G : Gx} {vs : List Nat} {tg it c elt : E} {env env1 env2 : En} {xs : List U}
theorem noExc_ok {α : Type} {a : α} : noExc (Res.ok a) = .ok a := rfl
theorem comp_map {f : U → U} (hI : evI G it env = .ok (xs, env1)) (ok : vs.all (okS env1) = true) (ht : ∀ x ∈ xs, turnC vs tg c (evE G c) (evE G elt) x (wipeE env1 vs) = .ok (some (f x), wipeE env1 vs)) (hz : xs.length ≤ sizeLine)
    (hu : unwipe env1 (wipeE env1 vs) vs = env2) : evE G (.cmp1 vs tg it c elt) env = .ok (.own (.lst (xs.map f)) false, env2) := by
  rw [evE_cmp1, hI, Res.bind_ok]
  show (if vs.all (okS env1) then _ else _) = _
  rw [if_pos ok, compGo_map ht, noExc_ok, Res.bind_ok]
  show (if (xs.map f).length ≤ sizeLine then _ else _) = _
  rw [if_pos (by simpa using hz), hu]
theorem comp_filter {g : U → Option U} (hI : evI G it env = .ok (xs, env1)) (ok : vs.all (okS env1) = true) (ht : ∀ x ∈ xs, turnC vs tg c (evE G c) (evE G elt) x (wipeE env1 vs) = .ok (g x, wipeE env1 vs)) (hz : xs.length ≤ sizeLine)
    (hu : unwipe env1 (wipeE env1 vs) vs = env2) : evE G (.cmp1 vs tg it c elt) env = .ok (.own (.lst (xs.filterMap g)) false, env2) := by
  rw [evE_cmp1, hI, Res.bind_ok]
  show (if vs.all (okS env1) then _ else _) = _
  rw [if_pos ok, compGo_filter ht, noExc_ok, Res.bind_ok]
  show (if (xs.filterMap g).length ≤ sizeLine then _ else _) = _
  rw [if_pos (Nat.le_trans (List.length_filterMap_le g xs) hz), hu]
/-- a loop: what is walked first -/
theorem for_run {tg it : E} {b : S} (hI : evI G it env = .ok (xs, env1)) : exS G (.for_ tg it b) env = forGo (fun x env => (Res.of (storeU tg x env)).bind fun env => exS G b env) xs env1 := by
  rw [exS_for_, hI]
  rfl
end
theorem run_val {G : Gx} {f : Fn} {as env0 env : En} {u : U} (h0 : as ++ List.replicate (f.n - as.length) .emp = env0) (h : exS G f.body env0 = .ok (.rt (.val u), env)) : runFn G f as = .ok (.val u, outsF f.md env as) := by
  unfold runFn; rw [h0, h]
theorem run_own {G : Gx} {f : Fn} {as env0 env : En} {u : U} (h0 : as ++ List.replicate (f.n - as.length) .emp = env0) (h : exS G f.body env0 = .ok (.rt (.own u false), env)) : runFn G f as = .ok (.own u false, outsF f.md env as) := by
  unfold runFn; rw [h0, h]
theorem ret_ok {G : Gx} {e : E} {env env1 : En} {w : Slot} (h : evE G e env = .ok (w, env1)) (hw : ∀ i, w ≠ .bor i) : exS G (.ret e) env = .ok (.rt w, env1) := by
  rw [exS_ret, h, Res.bind_ok]
  cases w <;> first | rfl | exact (hw _ rfl).elim
theorem seq_nx {G : Gx} {a r : S} {env env1 : En} (h : exS G a env = .ok (.nx, env1)) : exS G (.seq a r) env = exS G r env1 := by
  rw [exS_seq, h]; rfl
theorem seq_rt {G : Gx} {a r : S} {env env1 : En} {w : Slot} (h : exS G a env = .ok (.rt w, env1)) : exS G (.seq a r) env = .ok (.rt w, env1) := by
  rw [exS_seq, h]; rfl
theorem setS_ok {G : Gx} {i : Nat} {e : E} {env env1 env2 : En} {w : Slot} {u : U} (h : evE G e env = .ok (w, env1)) (h1 : frz w = some u) (h2 : put env1 i (.val u) = some env2) : exS G (.set i e) env = .ok (.nx, env2) := by
  rw [exS_set, h, Res.bind_ok]
  show (Res.of (frz w)).bind _ = _
  rw [h1, Res.of_some, Res.bind_ok, h2]
  rfl
theorem ownS_ok {G : Gx} {i : Nat} {e : E} {env env1 env2 : En} {w : Slot} (h : evE G e env = .ok (w, env1)) (h2 : keepF env1 i w = some env2) : exS G (.own i e) env = .ok (.nx, env2) := by
  rw [exS_own, h, Res.bind_ok]
  show (Res.of (keepF env1 i w)).bind _ = _
  rw [h2]
  rfl
end PF
end
section
set_option Elab.async false
set_option autoImplicit false
set_option linter.all false
set_option maxRecDepth 100000
namespace PF
open PySem PySem.Spec PyProof.Rows L2

/-- an answer that has Q, or an exception that has X -/
def Res.sat {α : Type} (r : Res α) (Q : α → Prop) (X : Exn → En → Prop) : Prop := match r with
  | .ok a => Q a
  | .exc x e => X x e
  | .bad => False
theorem Res.sat_mono {α : Type} {r : Res α} {Q Q' : α → Prop} {X : Exn → En → Prop} (h : r.sat Q X) (hq : ∀ a, Q a → Q' a) : r.sat Q' X := by
  cases r with
  | ok a => exact hq a h
  | exc x e => exact h
  | bad => exact h
theorem Res.sat_bind {α β : Type} {r : Res α} {f : α → Res β} {Q : β → Prop} {X : Exn → En → Prop} (h : r.sat (fun a => (f a).sat Q X) X) : (r.bind f).sat Q X := by
  cases r with
  | ok a => exact h
  | exc x e => exact h
  | bad => exact h
def wpO {α : Type} (o : Option α) (K : α → Prop) : Prop := match o with
  | some a => K a
  | none => False
theorem wpO_some {α : Type} {o : Option α} {K : α → Prop} (h : wpO o K) : ∃ a, o = some a ∧ K a := by
  cases o with
  | some a => exact ⟨a, rfl, h⟩
  | none => exact h.elim
theorem sat_of {α β : Type} {o : Option α} {f : α → Res β} {Q : β → Prop} {X : Exn → En → Prop} (h : wpO o fun a => (f a).sat Q X) : ((Res.of o).bind f).sat Q X := by
  obtain ⟨a, e, h⟩ := wpO_some h
  rw [e]
  exact h
theorem wpO_mono {α : Type} {o : Option α} {K K' : α → Prop} (h : wpO o K) (hk : ∀ a, K a → K' a) : wpO o K' := by
  cases o with
  | some a => exact hk a h
  | none => exact h
def wpB (k : Bool) (A B : Prop) : Prop := match k with
  | true => A
  | false => B
theorem wpB_of {k : Bool} {A B : Prop} (h : k = true → A) (h' : k = false → B) : wpB k A B := by
  cases k with
  | true => exact h rfl
  | false => exact h' rfl
theorem wpB_dec {p : Prop} [Decidable p] {A B : Prop} (h : p → A) (h' : ¬p → B) : wpB (decide p) A B := wpB_of (fun q => h (of_decide_eq_true q)) fun q => h' (of_decide_eq_false q)
theorem wpB_ndec {p : Prop} [Decidable p] {A B : Prop} (h : ¬p → A) (h' : p → B) : wpB (!decide p) A B := by
  by_cases c : p
  · rw [decide_eq_true c]; exact h' c
  · rw [decide_eq_false c]; exact h c
theorem wpB_t {k : Bool} {A B : Prop} (h : k = true) (a : A) : wpB k A B := by subst h; exact a
theorem wpB_f {k : Bool} {A B : Prop} (h : k = false) (a : B) : wpB k A B := by subst h; exact a
theorem wpB_td {p : Prop} [Decidable p] {A B : Prop} (h : p) (a : A) : wpB (decide p) A B := wpB_t (decide_eq_true h) a
theorem wpB_fd {p : Prop} [Decidable p] {A B : Prop} (h : ¬p) (a : B) : wpB (decide p) A B := wpB_f (decide_eq_false h) a
theorem wpB_ntd {p : Prop} [Decidable p] {A B : Prop} (h : ¬p) (a : A) : wpB (!decide p) A B := wpB_ndec (fun _ => a) fun q => (h q).elim
theorem wpB_nfd {p : Prop} [Decidable p] {A B : Prop} (h : p) (a : B) : wpB (!decide p) A B := wpB_ndec (fun q => (q h).elim) fun _ => a
theorem wpB_sat {β : Type} {k : Bool} {r r' : Res β} {Q : β → Prop} {X : Exn → En → Prop} (h : wpB k (r.sat Q X) (r'.sat Q X)) : (if k then r else r').sat Q X := by
  cases k with
  | true => exact h
  | false => exact h
/-- is a list shorter than n -/
def shortB {α : Type} : List α → Nat → Bool
  | _, 0 => false
  | [], _ + 1 => true
  | _ :: r, n + 1 => shortB r n
theorem shortB_len {α : Type} : ∀ {us : List α} {n : Nat}, shortB us n = true → us.length ≤ n
  | [], 0, h => by simp [shortB] at h
  | _ :: _, 0, h => by simp [shortB] at h
  | [], n + 1, _ => by simp
  | _ :: r, n + 1, h => by
    have := shortB_len (us := r) (n := n) h
    simp; omega
def wpSh {α : Type} (us : List α) (A : Prop) : Prop := match shortB us 64 with
  | true => A
  | false => us.length ≤ sizeLine ∧ A
theorem wpSh_ok {α : Type} {us : List α} {A : Prop} (h : wpSh us A) : us.length ≤ sizeLine ∧ A := by
  unfold wpSh at h
  cases q : shortB us 64 with
  | true =>
    rw [q] at h
    exact ⟨Nat.le_trans (shortB_len q) (by decide), h⟩
  | false => rw [q] at h; exact h
theorem wpSh_of {α : Type} {us : List α} {A : Prop} (h : us.length ≤ sizeLine) (a : A) : wpSh us A := by
  unfold wpSh
  cases shortB us 64 with
  | true => exact a
  | false => exact ⟨h, a⟩
def notin (i : Nat) : List Nat → Bool
  | [] => true
  | j :: r => !(Nat.beq i j) && notin i r
def nodB : List Nat → Bool
  | [] => true
  | i :: r => notin i r && nodB r
theorem notin_ok {i : Nat} : ∀ {l : List Nat}, notin i l = true → i ∉ l
  | [], _ => by simp
  | j :: r, h => by
    simp only [notin, Bool.and_eq_true, Bool.not_eq_true'] at h
    have := notin_ok h.2
    have e : i ≠ j := fun z => by subst z; simp at h
    simp [e, this]
theorem nodB_ok : ∀ {l : List Nat}, nodB l = true → l.Nodup
  | [], _ => List.nodup_nil
  | i :: r, h => by
    simp only [nodB, Bool.and_eq_true] at h
    exact List.nodup_cons.mpr ⟨notin_ok h.1, nodB_ok h.2⟩
/-- what must hold ahead of an operator -/
def wpOp : BOp → U → U → (Slot → Prop) → Prop
  | .add, .int i, .int j, K => K (.val (.int (i + j)))
  | .add, .str x, .str y, K => x.length + y.length ≤ sizeLine ∧ K (.val (.str (x ++ y)))
  | .add, .lst x, .lst y, K => x.length + y.length ≤ sizeLine ∧ K (.own (.lst (x ++ y)) false)
  | .add, .tup x, .tup y, K => x.length + y.length ≤ sizeLine ∧ K (.val (.tup (x ++ y)))
  | .sub, .int i, .int j, K => K (.val (.int (i - j)))
  | .mul, .int i, .int j, K => mulOk i j = true ∧ K (.val (.int (i * j)))
  | .mul, .lst x, .int j, K => (-(2 ^ 63) ≤ j ∧ j < 2 ^ 63 ∧ x.length * j.toNat ≤ sizeLine) ∧ K (.own (.lst (List.replicate j.toNat x).flatten) false)
  | .fdiv, .int i, .int j, K => divOk j = true ∧ K (.val (.int (i / j)))
  | .mod, .int i, .int j, K => 0 < j ∧ K (.val (.int (i % j)))
  | .pow, .int i, .int j, K => (0 ≤ j ∧ j ≤ 1000000 ∧ i.natAbs < 2 ^ 64) ∧ K (.val (.int (i ^ j.toNat)))
  | o, u, v, K => wpO (opF o u v) K
theorem wpOp_ok {o : BOp} {u v : U} {K : Slot → Prop} (h : wpOp o u v K) : wpO (opF o u v) K := by
  unfold wpOp at h
  split at h
  · exact h
  · show wpO (if _ then _ else _) _
    rw [if_pos h.1]; exact h.2
  · show wpO (if _ then _ else _) _
    rw [if_pos h.1]; exact h.2
  · show wpO (if _ then _ else _) _
    rw [if_pos h.1]; exact h.2
  · exact h
  · show wpO (if _ then _ else _) _
    rw [if_pos h.1]; exact h.2
  · show wpO (if _ then _ else _) _
    rw [if_pos h.1]; exact h.2
  · show wpO (if _ then _ else _) _
    rw [if_pos h.1]; exact h.2
  · show wpO (if _ then _ else _) _
    rw [if_pos h.1]; exact h.2
  · show wpO (if _ then _ else _) _
    rw [if_pos h.1]; exact h.2
  · exact h
/-- ahead of a comparison -/
def wpCm : COp → U → U → (Bool → Prop) → Prop
  | .eq, .int i, .int j, K => K (decide (i = j))
  | .ne, .int i, .int j, K => K (!decide (i = j))
  | .eq, .bl i, .bl j, K => K (i == j)
  | o, u, v, K => wpO (cmpF o u v) K
theorem wpCm_ok {o : COp} {u v : U} {K : Bool → Prop} (h : wpCm o u v K) : wpO (cmpF o u v) K := by
  unfold wpCm at h
  split at h
  · exact h
  · exact h
  · exact h
  · exact h
section
variable (G : Gx)
/-- the call of a def by its answer -/
inductive wpDen (r : Res (Slot × List Slot)) (Q : Slot → List Slot → Prop) (X : Exn → List Slot → Prop) : Prop where
  | val (u : U) (os : List Slot) (h : r = .ok (.val u, os)) (q : Q (.val u) os)
  | own (u : U) (os : List Slot) (h : r = .ok (.own u false, os)) (q : Q (.own u false) os)
  | exc (x : Exn) (os : List Slot) (h : r = .exc x os) (q : X x os)
def wpCall (f : Nat) (ws : List Slot) (env : En) (Q : Slot → En → Prop) (X : Exn → En → Prop) : Prop :=
  wpO (G.modes f) fun md => wpO (argsF env md ws) fun as => wpB (nodB (borrows ws)) (wpDen (G.den f as) (fun s os => wpO (backF env ws os) fun env => Q s env) (fun x os => wpO (backF env ws os) fun env => X x env)) False
theorem wpDen_ok {r : Res (Slot × List Slot)} {u : U} {os : List Slot} {Q : Slot → List Slot → Prop} {X : Exn → List Slot → Prop} (h : r = .ok (.val u, os)) (q : Q (.val u) os) : wpDen r Q X := .val u os h q
theorem wpDen_own {r : Res (Slot × List Slot)} {u : U} {os : List Slot} {Q : Slot → List Slot → Prop} {X : Exn → List Slot → Prop} (h : r = .ok (.own u false, os)) (q : Q (.own u false) os) : wpDen r Q X := .own u os h q
theorem wpDen_exc {r : Res (Slot × List Slot)} {x : Exn} {os : List Slot} {Q : Slot → List Slot → Prop} {X : Exn → List Slot → Prop} (h : r = .exc x os) (q : X x os) : wpDen r Q X := .exc x os h q
theorem wpDen_mono {r : Res (Slot × List Slot)} {Q Q' : Slot → List Slot → Prop} {X X' : Exn → List Slot → Prop} (h : wpDen r Q X) (hq : ∀ s os, Q s os → Q' s os) (hx : ∀ s os, X s os → X' s os) : wpDen r Q' X' := by
  cases h with
  | val u os h q => exact .val u os h (hq _ _ q)
  | own u os h q => exact .own u os h (hq _ _ q)
  | exc x os h q => exact .exc x os h (hx _ _ q)
theorem wpDen_eq {r : Res (Slot × List Slot)} {s : Slot} {o : List Slot} (h : wpDen r (fun s' os => s' = s ∧ os = o) (fun _ _ => False)) : r = .ok (s, o) := by
  cases h with
  | val u os h q => obtain ⟨rfl, rfl⟩ := q; exact h
  | own u os h q => obtain ⟨rfl, rfl⟩ := q; exact h
  | exc x os h q => exact q.elim
theorem wpDen_ex {r : Res (Slot × List Slot)} {Q : Slot → List Slot → Prop} (h : wpDen r Q (fun _ _ => False)) : ∃ s o, r = .ok (s, o) ∧ Q s o := by
  cases h with
  | val u os h q => exact ⟨_, _, h, q⟩
  | own u os h q => exact ⟨_, _, h, q⟩
  | exc x os h q => exact q.elim
theorem wpDen_xeq {r : Res (Slot × List Slot)} {x : Exn} {o : List Slot} (h : wpDen r (fun _ _ => False) (fun x' os => x' = x ∧ os = o)) : r = .exc x o := by
  cases h with
  | val u os h q => exact q.elim
  | own u os h q => exact q.elim
  | exc x os h q => obtain ⟨rfl, rfl⟩ := q; exact h
variable {G} in
theorem wpCall_ok {f : Nat} {ws : List Slot} {env : En} {Q : Slot → En → Prop} {X : Exn → En → Prop} (h : wpCall G f ws env Q X) : (callD G f ws env).sat (fun p => Q p.1 p.2) X := by
  unfold wpCall at h
  unfold callD
  refine sat_of (wpO_mono h fun md h => sat_of (wpO_mono h fun as h => ?_))
  cases q : nodB (borrows ws) with
  | false => rw [q] at h; exact h.elim
  | true =>
    rw [q] at h
    rw [if_pos (nodB_ok q)]
    have h : wpDen (G.den f as) (fun s os => wpO (backF env ws os) fun env => Q s env) (fun x os => wpO (backF env ws os) fun env => X x env) := h
    cases h with
    | val u os h q => rw [h]; exact sat_of q
    | own u os h q => rw [h]; exact sat_of q
    | exc x os h q =>
      rw [h]
      obtain ⟨e, q1, q2⟩ := wpO_some q
      show Res.sat (match backF env ws os with | some env => .exc x env | none => .bad) _ _
      rw [q1]
      exact q2
def condW (c : E) (run : En → (Slot → En → Prop) → Prop) (env : En) (K : Bool → En → Prop) : Prop := match c with
  | .nil => K true env
  | _ => run env fun p env => wpO (look env p) fun u => wpO u.tru fun k => K k env
def partW (c : E) (run : En → (Slot → En → Prop) → Prop) (env : En) (K : Option Int → En → Prop) : Prop := match c with
  | .nil => K none env
  | _ => run env fun p env => match look env p with
    | some (.int i) => K (some i) env
    | _ => False
theorem partW_ok (c : E) {run : En → Res (Slot × En)} {W : En → (Slot → En → Prop) → Prop} {X : Exn → En → Prop} (hw : ∀ {e : En} {K : Slot → En → Prop}, W e K → (run e).sat (fun p => K p.1 p.2) X) {env : En} {K : Option Int → En → Prop} (h : partW c W env K) : (partF c run env).sat (fun p => K p.1 p.2) X := by
  have key : (W env fun p env => match look env p with
    | some (.int i) => K (some i) env
    | _ => False) → ((run env).bind fun (p, env) => match look env p with
    | some (.int i) => .ok (some i, env)
    | _ => .bad : Res (Option Int × En)).sat (fun p => K p.1 p.2) X := fun h => Res.sat_bind (Res.sat_mono (hw h) fun (p, env) h => by
      have h : (match look env p with
        | some (.int i) => K (some i) env
        | _ => False) := h
      show Res.sat (match look env p with
        | some (.int i) => .ok (some i, env)
        | _ => .bad) _ _
      split at h
      · next q => first | exact h | (rw [q]; exact h)
      · exact h.elim)
  cases c <;> first | exact key h | exact h
theorem condW_ok (c : E) {run : En → Res (Slot × En)} {W : En → (Slot → En → Prop) → Prop} {X : Exn → En → Prop} (hw : ∀ {e : En} {K : Slot → En → Prop}, W e K → (run e).sat (fun p => K p.1 p.2) X) {env : En} {K : Bool → En → Prop} (h : condW c W env K) : (condF c run env).sat (fun p => K p.1 p.2) X := by
  have key : (W env fun p env => wpO (look env p) fun u => wpO u.tru fun k => K k env) → ((run env).bind fun (p, env) => (Res.of (look env p)).bind fun u => (Res.of u.tru).bind fun k => .ok (k, env) : Res (Bool × En)).sat (fun p => K p.1 p.2) X := fun h => Res.sat_bind (Res.sat_mono (hw h) fun (p, env) h => sat_of (wpO_mono h fun u h => sat_of (wpO_mono h fun v h => h)))
  cases c <;> first | exact key h | exact h
/-- ahead of a comprehension's turns -/
structure wpComp (turn : U → En → Res (Option U × En)) (xs : List U) (env : En) (K : List U → En → Prop) : Prop where
  out : (noExc (compGo turn xs env)).sat (fun p => K p.1 p.2) (fun _ _ => False)
mutual
def wpE : E → En → (Slot → En → Prop) → (Exn → En → Prop) → Prop
  | .var i, env, Q, _ => (match env[i]? with
    | some (.val u) => Q (.val u) env
    | some (.own u false) => Q (.val u) (env.set i (.val u))
    | _ => False)
  | .bor i, env, Q, _ => (match env[i]? with
    | some (.val _) => Q (.bor i) env
    | some (.own _ _) => Q (.bor i) env
    | _ => False)
  | .mov i, env, Q, _ => (match env[i]? with
    | some (.val u) => Q (.val u) env
    | some (.own u false) => Q (.own u false) (env.set i .emp)
    | _ => False)
  | .con u, env, Q, _ => Q (.val u) env
  | .glc k, env, Q, _ => wpO G.cst[k]? fun u => Q (.val u) env
  | .fnr i, env, Q, _ => Q (.val (.fn i)) env
  | .tup es, env, Q, X => wpL es env (fun ws env => wpO (frzs ws) fun us => wpSh us (Q (.val (.tup us)) env)) X
  | .lst es, env, Q, X => wpL es env (fun ws env => wpO (frzs ws) fun us => wpSh us (Q (.own (.lst us) false) env)) X
  | .dic0, env, Q, _ => Q (.own (.dic []) false) env
  | .bin op a b, env, Q, X => wpE a env (fun p env => wpE b env (fun q env => wpO (look env p) fun u => wpO (look env q) fun v => wpOp op u v fun w => Q w env) X) X
  | .neg a, env, Q, X => wpE a env (fun p env => match look env p with
    | some (.int i) => Q (.val (.int (-i))) env
    | _ => False) X
  | .not a, env, Q, X => wpE a env (fun p env => wpO (look env p) fun u => wpO u.tru fun b => Q (.val (.bl (!b))) env) X
  | .cmp op a b, env, Q, X => wpE a env (fun p env => wpE b env (fun q env => wpO (look env p) fun u => wpO (look env q) fun v => wpCm op u v fun w => Q (.val (.bl w)) env) X) X
  | .chn op op' a b c, env, Q, X => wpE a env (fun p env => wpE b env (fun q env => wpO (look env p) fun u => wpO (look env q) fun v => wpCm op u v fun w =>
    wpB w (wpE c env (fun r env => wpO (look env q) fun v => wpO (look env r) fun x => wpCm op' v x fun w => Q (.val (.bl w)) env) X) (Q (.val (.bl false)) env)) X) X
  | .and a b, env, Q, X => wpE a env (fun p env => wpO (frz p) fun u => wpO u.tru fun k => wpB k (wpE b env Q X) (Q (.val u) env)) X
  | .or a b, env, Q, X => wpE a env (fun p env => wpO (frz p) fun u => wpO u.tru fun k => wpB k (Q (.val u) env) (wpE b env Q X)) X
  | .ite c a b, env, Q, X => wpE c env (fun p env => wpO (look env p) fun u => wpO u.tru fun k => wpB k (wpE a env Q X) (wpE b env Q X)) X
  | .call f es, env, Q, X => wpL es env (fun ws env => wpCall G f ws env Q X) X
  | .cvar i es, env, Q, X => (match env[i]? with
    | some (.val (.fn f)) => wpL es env (fun ws env => wpCall G f ws env Q X) X
    | _ => False)
  | .blt b es, env, Q, X => wpL es env (fun ws env => wpO (looks env ws) fun us => wpO (bltF b us) fun w => Q w env) X
  | .ist t a, env, Q, X => wpE a env (fun p env => wpO (look env p) fun u => wpO (istF t u) fun b => Q (.val (.bl b)) env) X
  | .idx a b, env, Q, X => wpE a env (fun p env => wpE b env (fun q env => wpO (look env p) fun u => wpO (look env q) fun v => wpO (idxF u v) fun w => Q (.val w) env) X) X
  | .slc a lo hi, env, Q, X => wpE a env (fun p env => partW lo (fun env K => wpE lo env K X) env fun l env => partW hi (fun env K => wpE hi env K X) env fun h env =>
    wpO (look env p) fun u => wpO (slcF u l h) fun w => Q w env) X
  | .lrg k es, env, Q, X => wpL es env (fun ws env => wpO (looks env ws) fun us => wpO (itF k us) fun xs => xs.length ≤ sizeLine ∧ Q (.own (.lst xs) false) env) X
  | .trg k es, env, Q, X => wpL es env (fun ws env => wpO (looks env ws) fun us => wpO (itF k us) fun xs => xs.length ≤ sizeLine ∧ Q (.val (.tup xs)) env) X
  | .cmp1 vs tg it c elt, env, Q, X => wpI it env (fun xs env =>
    wpB (vs.all (okS env)) (wpComp (turnC vs tg c (evE G c) (evE G elt)) xs (wipeE env vs) fun us e => us.length ≤ sizeLine ∧ Q (.own (.lst us) false) (unwipe env e vs)) False) X
  | .lam f e, env, Q, _ => wpE e env (fun _ env => wpO (G.tel f none) fun u => Q (.val (.str u)) env) (fun x env => wpO (G.tel f (some x)) fun u => Q (.val (.str u)) env)
  | .join a b, env, Q, X => wpE a env (fun p env => wpE b env (fun q env => wpO (look env p) fun u => wpO (look env q) fun v => wpO (joinF u v) fun w => Q (.val w) env) X) X
  | .gcd a b, env, Q, X => wpE a env (fun p env => wpE b env (fun q env => wpO (look env p) fun u => wpO (look env q) fun v => wpO (gcdF u v) fun w => Q (.val w) env) X) X
  | _, _, _, _ => False
def wpL : E → En → (List Slot → En → Prop) → (Exn → En → Prop) → Prop
  | .nil, env, Q, _ => Q [] env
  | .cons a r, env, Q, X => wpE a env (fun w env => wpL r env (fun ws env => Q (w :: ws) env) X) X
  | _, _, _, _ => False
def wpI : E → En → (List U → En → Prop) → (Exn → En → Prop) → Prop
  | .itr k es, env, Q, X => wpL es env (fun ws env => wpO (frzs ws) fun us => wpO (itF k us) fun xs => Q xs env) X
  | _, _, _, _ => False
end
end
section
variable {G : Gx} {X : Exn → En → Prop}
theorem bad_bind {α : Type} {r : Res (Slot × En)} {f : Slot × En → Res α} {Q : α → Prop} (h : r.sat (fun p => (f p).sat Q X) X) : (r.bind f).sat Q X := Res.sat_bind h
mutual
theorem wpE_ok : ∀ (e : E) {env : En} {Q : Slot → En → Prop} {X : Exn → En → Prop}, wpE G e env Q X → (evE G e env).sat (fun p => Q p.1 p.2) X
  | .var i, env, Q, X, h => by
    have h : (match env[i]? with
      | some (.val u) => Q (.val u) env
      | some (.own u false) => Q (.val u) (env.set i (.val u))
      | _ => False) := h
    rw [evE_var]
    split at h
    · next q => first | exact h | (rw [q]; exact h)
    · next q => first | exact h | (rw [q]; exact h)
    · exact h.elim
  | .bor i, env, Q, X, h => by
    have h : (match env[i]? with
      | some (.val _) => Q (.bor i) env
      | some (.own _ _) => Q (.bor i) env
      | _ => False) := h
    rw [evE_bor]
    split at h
    · next q => first | exact h | (rw [q]; exact h)
    · next q => first | exact h | (rw [q]; exact h)
    · exact h.elim
  | .mov i, env, Q, X, h => by
    have h : (match env[i]? with
      | some (.val u) => Q (.val u) env
      | some (.own u false) => Q (.own u false) (env.set i .emp)
      | _ => False) := h
    rw [evE_mov]
    split at h
    · next q => first | exact h | (rw [q]; exact h)
    · next q => first | exact h | (rw [q]; exact h)
    · exact h.elim
  | .con u, env, Q, X, h => h
  | .glc k, env, Q, X, h => sat_of h
  | .fnr i, env, Q, X, h => h
  | .tup es, env, Q, X, h => Res.sat_bind (Res.sat_mono (wpL_ok es h) fun (ws, env) h => sat_of (wpO_mono h fun us h => by
      obtain ⟨h1, h2⟩ := wpSh_ok h
      show Res.sat (if us.length ≤ sizeLine then _ else _) _ _
      rw [if_pos h1]; exact h2))
  | .lst es, env, Q, X, h => Res.sat_bind (Res.sat_mono (wpL_ok es h) fun (ws, env) h => sat_of (wpO_mono h fun us h => by
      obtain ⟨h1, h2⟩ := wpSh_ok h
      show Res.sat (if us.length ≤ sizeLine then _ else _) _ _
      rw [if_pos h1]; exact h2))
  | .dic0, env, Q, X, h => h
  | .bin op a b, env, Q, X, h => Res.sat_bind (Res.sat_mono (wpE_ok a h) fun (p, env) h => Res.sat_bind (Res.sat_mono (wpE_ok b h) fun (q, env) h => sat_of (wpO_mono h fun u h => sat_of (wpO_mono h fun v h => sat_of (wpOp_ok h)))))
  | .neg a, env, Q, X, h => Res.sat_bind (Res.sat_mono (wpE_ok a h) fun (p, env) h => by
      have h : (match look env p with
        | some (.int i) => Q (.val (.int (-i))) env
        | _ => False) := h
      show Res.sat (match look env p with
        | some (.int i) => (Res.ok (Slot.val (U.int (-i)), env) : Res (Slot × En))
        | _ => Res.bad) _ _
      split at h
      · next q => first | exact h | (rw [q]; exact h)
      · exact h.elim)
  | .not a, env, Q, X, h => Res.sat_bind (Res.sat_mono (wpE_ok a h) fun (p, env) h => sat_of (wpO_mono h fun u h => sat_of (wpO_mono h fun v h => h)))
  | .cmp op a b, env, Q, X, h => Res.sat_bind (Res.sat_mono (wpE_ok a h) fun (p, env) h => Res.sat_bind (Res.sat_mono (wpE_ok b h) fun (q, env) h => sat_of (wpO_mono h fun u h => sat_of (wpO_mono h fun v h => sat_of (wpCm_ok h)))))
  | .chn op op' a b c, env, Q, X, h => Res.sat_bind (Res.sat_mono (wpE_ok a h) fun (p, env) h => Res.sat_bind (Res.sat_mono (wpE_ok b h) fun (q, env) h => sat_of (wpO_mono h fun u h => sat_of (wpO_mono h fun v h => sat_of (wpO_mono (wpCm_ok h) fun w h => wpB_sat (by
      cases w with
      | false => exact h
      | true => exact Res.sat_bind (Res.sat_mono (wpE_ok c h) fun (r, env) h => sat_of (wpO_mono h fun u h => sat_of (wpO_mono h fun v h => sat_of (wpCm_ok h))))))))))
  | .and a b, env, Q, X, h => Res.sat_bind (Res.sat_mono (wpE_ok a h) fun (p, env) h => sat_of (wpO_mono h fun u h => sat_of (wpO_mono h fun k h => wpB_sat (by
      cases k with
      | false => exact h
      | true => exact wpE_ok b h))))
  | .or a b, env, Q, X, h => Res.sat_bind (Res.sat_mono (wpE_ok a h) fun (p, env) h => sat_of (wpO_mono h fun u h => sat_of (wpO_mono h fun k h => wpB_sat (by
      cases k with
      | false => exact wpE_ok b h
      | true => exact h))))
  | .ite c a b, env, Q, X, h => Res.sat_bind (Res.sat_mono (wpE_ok c h) fun (p, env) h => sat_of (wpO_mono h fun u h => sat_of (wpO_mono h fun k h => wpB_sat (by
      cases k with
      | false => exact wpE_ok b h
      | true => exact wpE_ok a h))))
  | .call f es, env, Q, X, h => Res.sat_bind (Res.sat_mono (wpL_ok es h) fun (ws, env) h => wpCall_ok h)
  | .cvar i es, env, Q, X, h => by
    have h : (match env[i]? with
      | some (.val (.fn f)) => wpL G es env (fun ws env => wpCall G f ws env Q X) X
      | _ => False) := h
    rw [evE_cvar]
    split at h
    · next q => first | exact Res.sat_bind (Res.sat_mono (wpL_ok es h) fun (ws, env) h => wpCall_ok h) | (rw [q]; exact Res.sat_bind (Res.sat_mono (wpL_ok es h) fun (ws, env) h => wpCall_ok h))
    · exact h.elim
  | .blt b es, env, Q, X, h => Res.sat_bind (Res.sat_mono (wpL_ok es h) fun (ws, env) h => sat_of (wpO_mono h fun u h => sat_of (wpO_mono h fun v h => h)))
  | .ist t a, env, Q, X, h => Res.sat_bind (Res.sat_mono (wpE_ok a h) fun (p, env) h => sat_of (wpO_mono h fun u h => sat_of (wpO_mono h fun v h => h)))
  | .idx a b, env, Q, X, h => Res.sat_bind (Res.sat_mono (wpE_ok a h) fun (p, env) h => Res.sat_bind (Res.sat_mono (wpE_ok b h) fun (q, env) h => sat_of (wpO_mono h fun u h => sat_of (wpO_mono h fun v h => sat_of (wpO_mono h fun w h => h)))))
  | .slc a lo hi, env, Q, X, h => Res.sat_bind (Res.sat_mono (wpE_ok a h) fun (p, env) h => Res.sat_bind (Res.sat_mono (partW_ok lo (fun {e K} q => wpE_ok lo q) h) fun (l, env) h => Res.sat_bind (Res.sat_mono (partW_ok hi (fun {e K} q => wpE_ok hi q) h) fun (l, env) h => sat_of (wpO_mono h fun u h => sat_of (wpO_mono h fun v h => h)))))
  | .lrg k es, env, Q, X, h => Res.sat_bind (Res.sat_mono (wpL_ok es h) fun (ws, env) h => sat_of (wpO_mono h fun u h => sat_of (wpO_mono h fun xs h => by
      show Res.sat (if xs.length ≤ sizeLine then _ else _) _ _
      rw [if_pos h.1]; exact h.2)))
  | .trg k es, env, Q, X, h => Res.sat_bind (Res.sat_mono (wpL_ok es h) fun (ws, env) h => sat_of (wpO_mono h fun u h => sat_of (wpO_mono h fun xs h => by
      show Res.sat (if xs.length ≤ sizeLine then _ else _) _ _
      rw [if_pos h.1]; exact h.2)))
  | .cmp1 vs tg it c elt, env, Q, X, h => Res.sat_bind (Res.sat_mono (wpI_ok it h) fun (xs, env) h => by
      have h : wpB (vs.all (okS env)) (wpComp (turnC vs tg c (evE G c) (evE G elt)) xs (wipeE env vs) fun us e => us.length ≤ sizeLine ∧ Q (.own (.lst us) false) (unwipe env e vs)) False := h
      show Res.sat (if vs.all (okS env) = true then _ else _) _ _
      cases q : vs.all (okS env) with
      | false => rw [q] at h; exact h.elim
      | true =>
        rw [q] at h
        rw [if_pos rfl]
        have h : wpComp (turnC vs tg c (evE G c) (evE G elt)) xs (wipeE env vs) (fun us e => us.length ≤ sizeLine ∧ Q (.own (.lst us) false) (unwipe env e vs)) := h
        have h := h.out
        refine Res.sat_bind ?_
        revert h
        generalize noExc (compGo (turnC vs tg c (evE G c) (evE G elt)) xs (wipeE env vs)) = r
        intro h
        match r, h with
        | .ok (us, e), h =>
          show Res.sat (if us.length ≤ sizeLine then _ else _) _ _
          rw [if_pos h.1]; exact h.2)
  | .lam f e, env, Q, X, h => by
    have h := wpE_ok e (Q := fun _ env => wpO (G.tel f none) fun u => Q (.val (.str u)) env) (X := fun x env => wpO (G.tel f (some x)) fun u => Q (.val (.str u)) env) h
    rw [evE_lam]
    revert h
    generalize evE G e env = r
    intro h
    match r, h with
    | .ok (_, env), h => exact sat_of h
    | .exc x env, h => exact sat_of h
  | .join a b, env, Q, X, h => Res.sat_bind (Res.sat_mono (wpE_ok a h) fun (p, env) h => Res.sat_bind (Res.sat_mono (wpE_ok b h) fun (q, env) h => sat_of (wpO_mono h fun u h => sat_of (wpO_mono h fun v h => sat_of (wpO_mono h fun w h => h)))))
  | .gcd a b, env, Q, X, h => Res.sat_bind (Res.sat_mono (wpE_ok a h) fun (p, env) h => Res.sat_bind (Res.sat_mono (wpE_ok b h) fun (q, env) h => sat_of (wpO_mono h fun u h => sat_of (wpO_mono h fun v h => sat_of (wpO_mono h fun w h => h)))))
  | .nil, _, _, _, h => h.elim
  | .cons _ _, _, _, _, h => h.elim
  | .itr _ _, _, _, _, h => h.elim
  | .isx _ _, _, _, _, h => h.elim
  | .tnm _, _, _, _, h => h.elim
  | .ttp _, _, _, _, h => h.elim
theorem wpL_ok : ∀ (e : E) {env : En} {Q : List Slot → En → Prop} {X : Exn → En → Prop}, wpL G e env Q X → (evL G e env).sat (fun p => Q p.1 p.2) X
  | .nil, env, Q, X, h => h
  | .cons a r, env, Q, X, h => Res.sat_bind (Res.sat_mono (wpE_ok a h) fun (p, env) h => Res.sat_bind (Res.sat_mono (wpL_ok r h) fun (q, env) h => h))
  | .var _, _, _, _, h => h.elim
  | .bor _, _, _, _, h => h.elim
  | .mov _, _, _, _, h => h.elim
  | .con _, _, _, _, h => h.elim
  | .glc _, _, _, _, h => h.elim
  | .fnr _, _, _, _, h => h.elim
  | .tup _, _, _, _, h => h.elim
  | .lst _, _, _, _, h => h.elim
  | .dic0, _, _, _, h => h.elim
  | .bin _ _ _, _, _, _, h => h.elim
  | .neg _, _, _, _, h => h.elim
  | .not _, _, _, _, h => h.elim
  | .cmp _ _ _, _, _, _, h => h.elim
  | .chn _ _ _ _ _, _, _, _, h => h.elim
  | .and _ _, _, _, _, h => h.elim
  | .or _ _, _, _, _, h => h.elim
  | .ite _ _ _, _, _, _, h => h.elim
  | .call _ _, _, _, _, h => h.elim
  | .cvar _ _, _, _, _, h => h.elim
  | .blt _ _, _, _, _, h => h.elim
  | .ist _ _, _, _, _, h => h.elim
  | .idx _ _, _, _, _, h => h.elim
  | .slc _ _ _, _, _, _, h => h.elim
  | .lrg _ _, _, _, _, h => h.elim
  | .trg _ _, _, _, _, h => h.elim
  | .cmp1 _ _ _ _ _, _, _, _, h => h.elim
  | .lam _ _, _, _, _, h => h.elim
  | .join _ _, _, _, _, h => h.elim
  | .gcd _ _, _, _, _, h => h.elim
  | .itr _ _, _, _, _, h => h.elim
  | .isx _ _, _, _, _, h => h.elim
  | .tnm _, _, _, _, h => h.elim
  | .ttp _, _, _, _, h => h.elim
theorem wpI_ok : ∀ (e : E) {env : En} {Q : List U → En → Prop} {X : Exn → En → Prop}, wpI G e env Q X → (evI G e env).sat (fun p => Q p.1 p.2) X
  | .itr k es, env, Q, X, h => Res.sat_bind (Res.sat_mono (wpL_ok es h) fun (ws, env) h => sat_of (wpO_mono h fun u h => sat_of (wpO_mono h fun v h => h)))
  | .nil, _, _, _, h => h.elim
  | .cons _ _, _, _, _, h => h.elim
  | .var _, _, _, _, h => h.elim
  | .bor _, _, _, _, h => h.elim
  | .mov _, _, _, _, h => h.elim
  | .con _, _, _, _, h => h.elim
  | .glc _, _, _, _, h => h.elim
  | .fnr _, _, _, _, h => h.elim
  | .tup _, _, _, _, h => h.elim
  | .lst _, _, _, _, h => h.elim
  | .dic0, _, _, _, h => h.elim
  | .bin _ _ _, _, _, _, h => h.elim
  | .neg _, _, _, _, h => h.elim
  | .not _, _, _, _, h => h.elim
  | .cmp _ _ _, _, _, _, h => h.elim
  | .chn _ _ _ _ _, _, _, _, h => h.elim
  | .and _ _, _, _, _, h => h.elim
  | .or _ _, _, _, _, h => h.elim
  | .ite _ _ _, _, _, _, h => h.elim
  | .call _ _, _, _, _, h => h.elim
  | .cvar _ _, _, _, _, h => h.elim
  | .blt _ _, _, _, _, h => h.elim
  | .ist _ _, _, _, _, h => h.elim
  | .idx _ _, _, _, _, h => h.elim
  | .slc _ _ _, _, _, _, h => h.elim
  | .lrg _ _, _, _, _, h => h.elim
  | .trg _ _, _, _, _, h => h.elim
  | .cmp1 _ _ _ _ _, _, _, _, h => h.elim
  | .lam _ _, _, _, _, h => h.elim
  | .join _ _, _, _, _, h => h.elim
  | .gcd _ _, _, _, _, h => h.elim
  | .isx _ _, _, _, _, h => h.elim
  | .tnm _, _, _, _, h => h.elim
  | .ttp _, _, _, _, h => h.elim
end
end

section
variable (G : Gx)
structure wpFor (tg : E) (b : S) (xs : List U) (env : En) (Q : Fl → En → Prop) (X : Exn → En → Prop) : Prop where
  out : (forGo (fun x env => (Res.of (storeU tg x env)).bind fun env => exS G b env) xs env).sat (fun p => Q p.1 p.2) X
structure wpWhl (c : E) (b : S) (env : En) (Q : Fl → En → Prop) (X : Exn → En → Prop) : Prop where
  out : (whlGo (condF c (evE G c)) (exS G b) fuel env).sat (fun p => Q p.1 p.2) X
def wpApp (env : En) (i : Nat) (u : U) (K : En → Prop) : Prop := match env[i]? with
  | some (.own (.lst xs) p) => xs.length < sizeLine ∧ K (env.set i (.own (.lst (xs ++ [u])) p))
  | _ => False
theorem wpApp_ok {env : En} {i : Nat} {u : U} {K : En → Prop} (h : wpApp env i u K) : wpO (appE env i u) K := by
  unfold wpApp at h
  unfold appE
  split at h
  · next q =>
    try rw [q]
    show wpO (if _ then _ else _) _
    rw [if_pos h.1]; exact h.2
  · exact h.elim
def wpS : S → En → (Fl → En → Prop) → (Exn → En → Prop) → Prop
  | .nil, env, Q, _ => Q .nx env
  | .seq a r, env, Q, X => wpS a env (fun f env => match f with
    | .nx => wpS r env Q X
    | f => Q f env) X
  | .pas, env, Q, _ => Q .nx env
  | .brk, env, Q, _ => Q .bk env
  | .cnt, env, Q, _ => Q .ct env
  | .set i e, env, Q, X => wpE G e env (fun w env => wpO (frz w) fun u => wpO (put env i (.val u)) fun env => Q .nx env) X
  | .own i e, env, Q, X => wpE G e env (fun w env => wpO (keepF env i w) fun env => Q .nx env) X
  | .unp tg e, env, Q, X => wpE G e env (fun w env => wpO (frz w) fun u => wpO (storeU tg u env) fun env => Q .nx env) X
  | .par ts es, env, Q, X => wpL G es env (fun ws env => wpO (parF ts ws env) fun env => Q .nx env) X
  | .par2 i k j l a b, env, Q, X => wpL G (.cons a (.cons b .nil)) env (fun ws env => wpO (frzs ws) fun us => match us with
    | [u, v] => wpB (ownB env i) (wpE G k env (fun r env => wpO (look env r) fun x => wpO (subE env i x u) fun env => wpB (ownB env j) (wpE G l env (fun r env => wpO (look env r) fun x => wpO (subE env j x v) fun env => Q .nx env) X) False) X) False
    | _ => False) X
  | .sub i k e, env, Q, X => wpE G e env (fun w env => wpO (frz w) fun u => wpB (ownB env i) (wpE G k env (fun r env => wpO (look env r) fun x => wpO (subE env i x u) fun env => Q .nx env) X) False) X
  | .app i e, env, Q, X => wpB (ownL env i) (wpE G e env (fun w env => wpO (frz w) fun u => wpApp env i u fun env => Q .nx env) X) False
  | .exp e, env, Q, X => wpE G e env (fun _ env => Q .nx env) X
  | .ret e, env, Q, X => wpE G e env (fun w env => match w with
    | .bor _ => False
    | w => Q (.rt w) env) X
  | .retn, env, Q, _ => Q (.rt (.val .non)) env
  | .rse c, env, _, X => X ⟨c, []⟩ env
  | .iff c a b, env, Q, X => condW c (fun env K => wpE G c env K X) env fun k env => wpB k (wpS a env Q X) (wpS b env Q X)
  | .for_ tg it b, env, Q, X => wpI G it env (fun xs env => wpFor G tg b xs env Q X) X
  | .whl c b, env, Q, X => wpWhl G c b env Q X
end
section
variable {G : Gx}
theorem wpS_ok : ∀ (s : S) {env : En} {Q : Fl → En → Prop} {X : Exn → En → Prop}, wpS G s env Q X → (exS G s env).sat (fun p => Q p.1 p.2) X
  | .nil, env, Q, X, h => h
  | .seq a r, env, Q, X, h => Res.sat_bind (Res.sat_mono (wpS_ok a h) fun (f, env) h => by
      match f, h with
      | .nx, h => exact wpS_ok r h
      | .bk, h => exact h
      | .ct, h => exact h
      | .rt w, h => exact h)
  | .pas, env, Q, X, h => h
  | .brk, env, Q, X, h => h
  | .cnt, env, Q, X, h => h
  | .set i e, env, Q, X, h => Res.sat_bind (Res.sat_mono (wpE_ok e h) fun (w, env) h => sat_of (wpO_mono h fun u h => sat_of (wpO_mono h fun v h => h)))
  | .own i e, env, Q, X, h => Res.sat_bind (Res.sat_mono (wpE_ok e h) fun (w, env) h => sat_of (wpO_mono h fun u h => h))
  | .unp tg e, env, Q, X, h => Res.sat_bind (Res.sat_mono (wpE_ok e h) fun (w, env) h => sat_of (wpO_mono h fun u h => sat_of (wpO_mono h fun v h => h)))
  | .par ts es, env, Q, X, h => Res.sat_bind (Res.sat_mono (wpL_ok es h) fun (ws, env) h => sat_of (wpO_mono h fun u h => h))
  | .par2 i k j l a b, env, Q, X, h => Res.sat_bind (Res.sat_mono (wpL_ok (.cons a (.cons b .nil)) h) fun (ws, env) h => sat_of (wpO_mono h fun us h => by
      match us, h with
      | [u, v], h =>
        have h : wpB (ownB env i) _ False := h
        show Res.sat (if _ then _ else _) _ _
        cases q : ownB env i with
        | false => rw [q] at h; exact h.elim
        | true =>
          rw [q] at h
          rw [if_pos rfl]
          refine Res.sat_bind (Res.sat_mono (wpE_ok k h) fun (r, env) h => sat_of (wpO_mono h fun x h => sat_of (wpO_mono h fun env h => ?_)))
          have h : wpB (ownB env j) _ False := h
          show Res.sat (if _ then _ else _) _ _
          cases q : ownB env j with
          | false => rw [q] at h; exact h.elim
          | true =>
            rw [q] at h
            rw [if_pos rfl]
            exact Res.sat_bind (Res.sat_mono (wpE_ok l h) fun (r, env) h => sat_of (wpO_mono h fun x h => sat_of (wpO_mono h fun env h => h)))))
  | .sub i k e, env, Q, X, h => Res.sat_bind (Res.sat_mono (wpE_ok e h) fun (w, env) h => sat_of (wpO_mono h fun u h => by
      have h : wpB (ownB env i) _ False := h
      show Res.sat (if _ then _ else _) _ _
      cases q : ownB env i with
      | false => rw [q] at h; exact h.elim
      | true =>
        rw [q] at h
        rw [if_pos rfl]
        exact Res.sat_bind (Res.sat_mono (wpE_ok k h) fun (r, env) h => sat_of (wpO_mono h fun x h => sat_of (wpO_mono h fun env h => h)))))
  | .app i e, env, Q, X, h => by
      have h : wpB (ownL env i) _ False := h
      show Res.sat (if _ then _ else _) _ _
      cases q : ownL env i with
      | false => rw [q] at h; exact h.elim
      | true =>
        rw [q] at h
        rw [if_pos rfl]
        exact Res.sat_bind (Res.sat_mono (wpE_ok e h) fun (r, env) h => sat_of (wpO_mono h fun x h => sat_of (wpApp_ok h)))
  | .exp e, env, Q, X, h => Res.sat_bind (Res.sat_mono (wpE_ok e h) fun (w, env) h => h)
  | .ret e, env, Q, X, h => Res.sat_bind (Res.sat_mono (wpE_ok e h) fun (w, env) h => by
      match w, h with
      | .emp, h => exact h
      | .val u, h => exact h
      | .own u p, h => exact h)
  | .retn, env, Q, X, h => h
  | .rse c, env, Q, X, h => h
  | .iff c a b, env, Q, X, h => Res.sat_bind (Res.sat_mono (condW_ok c (fun {e K} q => wpE_ok c q) h) fun (k, env) h => wpB_sat (by
      cases k with
      | false => exact wpS_ok b h
      | true => exact wpS_ok a h))
  | .for_ tg it b, env, Q, X, h => Res.sat_bind (Res.sat_mono (wpI_ok it h) fun (xs, env) h => h.out)
  | .whl c b, env, Q, X, h => h.out
def stepW (I : En → Prop) (Q : Fl → En → Prop) (f : Fl) (e : En) : Prop := match f with
  | .nx => I e
  | .ct => I e
  | .bk => Q .nx e
  | .rt w => Q (.rt w) e
theorem forGo_sat {turn : U → En → Res (Fl × En)} {Q : Fl → En → Prop} {X : Exn → En → Prop} : ∀ {us : List U} (I : Nat → En → Prop) {e : En}, I 0 e → (∀ i x e, us[i]? = some x → I i e → (turn x e).sat (fun p => stepW (I (i + 1)) Q p.1 p.2) X) → (∀ e, I us.length e → Q .nx e) → (forGo turn us e).sat (fun p => Q p.1 p.2) X
  | [], I, e, h, _, hq => hq e h
  | x :: r, I, e, h, hs, hq => by
    refine Res.sat_bind (Res.sat_mono (hs 0 x e rfl h) fun (f, e) h => ?_)
    have key : I 1 e → (forGo turn r e).sat (fun p => Q p.1 p.2) X := fun h => forGo_sat (fun i => I (i + 1)) h (fun i y e q p => hs (i + 1) y e (by simpa using q) p) fun e p => hq e p
    match f, h with
    | .nx, h => exact key h
    | .ct, h => exact key h
    | .bk, h => exact h
    | .rt w, h => exact h
theorem wpFor_inv {tg : E} {b : S} {xs : List U} {env : En} {Q : Fl → En → Prop} {X : Exn → En → Prop} (I : Nat → En → Prop) (h0 : I 0 env)
    (hs : ∀ i x e, xs[i]? = some x → I i e → wpO (storeU tg x e) fun e => wpS G b e (stepW (I (i + 1)) Q) X) (hq : ∀ e, I xs.length e → Q .nx e) : wpFor G tg b xs env Q X :=
  ⟨forGo_sat I h0 (fun i x e q p => sat_of (wpO_mono (hs i x e q p) fun e h => wpS_ok b h)) hq⟩
theorem whlGo_sat {test : En → Res (Bool × En)} {body : En → Res (Fl × En)} {Q : Fl → En → Prop} {X : Exn → En → Prop} (I : En → Prop) (m : En → Nat)
    (hs : ∀ e, I e → (test e).sat (fun p => wpB p.1 ((body p.2).sat (fun q => stepW (fun e' => I e' ∧ m e' < m e) Q q.1 q.2) X) (Q .nx p.2)) X) : ∀ {n : Nat} {e : En}, I e → m e < n → (whlGo test body n e).sat (fun p => Q p.1 p.2) X
  | 0, e, _, hm => by omega
  | n + 1, e, h, hm => by
    refine Res.sat_bind (Res.sat_mono (hs e h) fun (k, e1) h => ?_)
    cases k with
    | false => exact h
    | true =>
      refine Res.sat_bind (Res.sat_mono (show (body e1).sat (fun q => stepW (fun e' => I e' ∧ m e' < m e) Q q.1 q.2) X from h) fun (f, e2) h => ?_)
      match f, h with
      | .nx, h => exact whlGo_sat I m hs h.1 (by have h2 : m e2 < m e := h.2; omega)
      | .ct, h => exact whlGo_sat I m hs h.1 (by have h2 : m e2 < m e := h.2; omega)
      | .bk, h => exact h
      | .rt w, h => exact h
theorem wpWhl_inv {c : E} {b : S} {env : En} {Q : Fl → En → Prop} {X : Exn → En → Prop} (I : En → Prop) (m : En → Nat) (h0 : I env) (hm : m env < fuel)
    (hs : ∀ e, I e → condW c (fun e K => wpE G c e K X) e fun k e' => wpB k (wpS G b e' (stepW (fun e'' => I e'' ∧ m e'' < m e) Q) X) (Q .nx e')) : wpWhl G c b env Q X :=
  ⟨whlGo_sat I m (fun e p => Res.sat_mono (condW_ok c (fun {e K} q => wpE_ok c q) (hs e p)) fun (k, e) h => by
    cases k with
    | false => exact h
    | true => exact wpS_ok b h) h0 hm⟩
def noX : Exn → En → Prop := fun _ _ => False
theorem compGo_sat {turn : U → En → Res (Option U × En)} {K : List U → En → Prop} : ∀ {xs : List U} (I : Nat → List U → En → Prop) {e : En} {acc : List U}, I 0 acc e → (∀ i x acc e, xs[i]? = some x → I i acc e → (turn x e).sat (fun p => match p.1 with
      | some u => I (i + 1) (acc ++ [u]) p.2
      | none => I (i + 1) acc p.2) noX) → (∀ us e, I xs.length us e → K us e) → (compGo turn xs e).sat (fun p => K (acc ++ p.1) p.2) noX
  | [], I, e, acc, h, _, hq => by
    show K (acc ++ []) e
    rw [List.append_nil]
    exact hq _ e h
  | x :: r, I, e, acc, h, hs, hq => by
    refine Res.sat_bind (Res.sat_mono (hs 0 x acc e rfl h) fun (o, e) h => ?_)
    have key : ∀ acc, I 1 acc e → (compGo turn r e).sat (fun p => K (acc ++ p.1) p.2) noX := fun acc h => compGo_sat (fun i => I (i + 1)) h (fun i y acc e q p => hs (i + 1) y acc e (by simpa using q) p) fun us e p => hq us e p
    match o, h with
    | none, h => exact Res.sat_bind (Res.sat_mono (key acc h) fun (us, e) h => h)
    | some u, h => exact Res.sat_bind (Res.sat_mono (key (acc ++ [u]) h) fun (us, e) h => by
        show K (acc ++ (u :: us)) e
        have h : K (acc ++ [u] ++ us) e := h
        simpa using h)
theorem wpComp_inv {vs : List Nat} {tg c elt : E} {xs : List U} {env : En} {K : List U → En → Prop} (I : Nat → List U → En → Prop) (h0 : I 0 [] env)
    (hs : ∀ i x acc e, xs[i]? = some x → I i acc e → wpO (storeU tg x e) fun e => condW c (fun e K => wpE G c e K noX) e fun k e => wpB k (wpE G elt e (fun w e => wpO (frz w) fun u => I (i + 1) (acc ++ [u]) (wipeE e vs)) noX) (I (i + 1) acc (wipeE e vs)))
    (hK : ∀ us e, I xs.length us e → K us e) : wpComp (turnC vs tg c (evE G c) (evE G elt)) xs env K := by
  refine ⟨?_⟩
  have h := compGo_sat (turn := turnC vs tg c (evE G c) (evE G elt)) (K := K) I h0 (fun i x acc e q p => by
    refine sat_of (wpO_mono (hs i x acc e q p) fun e h => Res.sat_bind (Res.sat_mono (condW_ok c (fun {e K} q => wpE_ok c q) h) fun (k, e) h => ?_))
    cases k with
    | false => exact h
    | true => exact Res.sat_bind (Res.sat_mono (wpE_ok elt h) fun (w, e) h => sat_of (wpO_mono h fun u h => h))) hK
  revert h
  generalize compGo (turnC vs tg c (evE G c) (evE G elt)) xs env = r
  intro h
  match r, h with
  | .ok (us, e), h => exact h
def retW (md : List Bool) (as : List Slot) (Q : Slot → List Slot → Prop) (fl : Fl) (env : En) : Prop := match fl with
  | .rt (.val u) => Q (.val u) (outsF md env as)
  | .rt (.own u false) => Q (.own u false) (outsF md env as)
  | .nx => Q (.val .non) (outsF md env as)
  | _ => False
theorem wpO_of {α : Type} {o : Option α} {K : α → Prop} {a : α} (h : o = some a) (k : K a) : wpO o K := by subst h; exact k
theorem run_wp {f : Fn} {as : List Slot} {env0 : En} {Q : Slot → List Slot → Prop} {X : Exn → List Slot → Prop} (h0 : as ++ List.replicate (f.n - as.length) .emp = env0) (h : wpS G f.body env0 (retW f.md as Q) (fun x env => X x (outsF f.md env as))) : wpDen (runFn G f as) Q X := by
  have h := wpS_ok f.body h
  unfold runFn
  rw [h0]
  revert h
  generalize exS G f.body env0 = r
  intro h
  match r, h with
  | .ok (.rt (.val u), env), h => exact .val u _ rfl h
  | .ok (.rt (.own u false), env), h => exact .own u _ rfl h
  | .ok (.nx, env), h => exact .val .non _ rfl h
  | .exc x env, h => exact .exc x _ rfl h
/-- a statement whose walk is cut off here -/
structure satS (G : Gx) (s : S) (env : En) (Q : Fl → En → Prop) (X : Exn → En → Prop) : Prop where
  out : (exS G s env).sat (fun p => Q p.1 p.2) X
theorem satS_of {s : S} {env : En} {Q : Fl → En → Prop} {X : Exn → En → Prop} (h : wpS G s env Q X) : satS G s env Q X := ⟨wpS_ok s h⟩
theorem satS_seq {a r : S} {env : En} {Q : Fl → En → Prop} {X : Exn → En → Prop} (h : wpS G a env (fun f e => match f with
    | .nx => satS G r e Q X
    | f => Q f e) X) : satS G (.seq a r) env Q X :=
  ⟨Res.sat_bind (Res.sat_mono (wpS_ok a h) fun (f, env) h => by
    match f, h with
    | .nx, h => exact h.out
    | .bk, h => exact h
    | .ct, h => exact h
    | .rt w, h => exact h)⟩
theorem run_sat {f : Fn} {as : List Slot} {env0 : En} {Q : Slot → List Slot → Prop} {X : Exn → List Slot → Prop} (h0 : as ++ List.replicate (f.n - as.length) .emp = env0) (h : satS G f.body env0 (retW f.md as Q) (fun x env => X x (outsF f.md env as))) : wpDen (runFn G f as) Q X := by
  have h := h.out
  unfold runFn
  rw [h0]
  revert h
  generalize exS G f.body env0 = r
  intro h
  match r, h with
  | .ok (.rt (.val u), env), h => exact .val u _ rfl h
  | .ok (.rt (.own u false), env), h => exact .own u _ rfl h
  | .ok (.nx, env), h => exact .val .non _ rfl h
  | .exc x env, h => exact .exc x _ rfl h
end
end PF
end
section
set_option Elab.async false
set_option autoImplicit false
set_option linter.all false
set_option maxRecDepth 100000
set_option maxHeartbeats 0
open PF
namespace K00
open PySem PySem.Spec PyProof.Rows L2
def top (i : Nat) : Stmt := PySem.Challenge.pw_archesjoined_k00_whole_field_numbers.main.body.getD i (.Pass ⟨0, 0, 0, 0⟩)
/-- is_tuple_of: value low high -/
def f_is_tuple_of : Fn := ⟨3, [false, false, false], (.seq (.ret (.and (.ist .tuple (.var 0)) (.chn .le .le (.var 1) (.blt .len (.cons (.var 0) .nil)) (.var 2)))) .nil)⟩
/-- is_fraction: value part -/
def f_is_fraction : Fn := ⟨2, [false], (.seq (.iff (.not (.call 0 (.cons (.var 0) (.cons (.con (.int 2)) (.cons (.con (.int 2)) .nil))))) (.seq (.ret (.con (.bl false))) .nil) .nil) (.seq (.iff (.not (.blt .all (.cons (.cmp1 [1] (.tnm 1) (.itr .plain (.cons (.var 0) .nil)) .nil (.and (.ist .int (.var 1)) (.not (.ist .bool (.var 1))))) .nil))) (.seq (.ret (.con (.bl false))) .nil) .nil) (.seq (.ret (.and (.cmp .ge (.idx (.var 0) (.con (.int 1))) (.con (.int 1))) (.cmp .eq (.gcd (.idx (.var 0) (.con (.int 0))) (.idx (.var 0) (.con (.int 1)))) (.con (.int 1))))) .nil)))⟩
/-- need_fraction: value -/
def f_need_fraction : Fn := ⟨1, [false], (.seq (.iff (.not (.call 1 (.cons (.var 0) .nil))) (.seq (.rse 1) .nil) .nil) .nil)⟩
/-- lowest: top bottom shared -/
def f_lowest : Fn := ⟨3, [false, false], (.seq (.set 2 (.gcd (.var 0) (.var 1))) (.seq (.par (.cons (.tnm 0) (.cons (.tnm 1) .nil)) (.cons (.bin .fdiv (.var 0) (.var 2)) (.cons (.bin .fdiv (.var 1) (.var 2)) .nil))) (.seq (.ret (.ite (.cmp .gt (.var 1) (.con (.int 0))) (.tup (.cons (.var 0) (.cons (.var 1) .nil))) (.tup (.cons (.neg (.var 0)) (.cons (.neg (.var 1)) .nil))))) .nil)))⟩
/-- plus: one other -/
def f_plus : Fn := ⟨2, [false, false], (.seq (.ret (.call 3 (.cons (.bin .add (.bin .mul (.idx (.var 0) (.con (.int 0))) (.idx (.var 1) (.con (.int 1)))) (.bin .mul (.idx (.var 1) (.con (.int 0))) (.idx (.var 0) (.con (.int 1))))) (.cons (.bin .mul (.idx (.var 0) (.con (.int 1))) (.idx (.var 1) (.con (.int 1)))) .nil)))) .nil)⟩
/-- minus: one other -/
def f_minus : Fn := ⟨2, [false, false], (.seq (.ret (.call 3 (.cons (.bin .sub (.bin .mul (.idx (.var 0) (.con (.int 0))) (.idx (.var 1) (.con (.int 1)))) (.bin .mul (.idx (.var 1) (.con (.int 0))) (.idx (.var 0) (.con (.int 1))))) (.cons (.bin .mul (.idx (.var 0) (.con (.int 1))) (.idx (.var 1) (.con (.int 1)))) .nil)))) .nil)⟩
/-- times: one other -/
def f_times : Fn := ⟨2, [false, false], (.seq (.ret (.call 3 (.cons (.bin .mul (.idx (.var 0) (.con (.int 0))) (.idx (.var 1) (.con (.int 0)))) (.cons (.bin .mul (.idx (.var 0) (.con (.int 1))) (.idx (.var 1) (.con (.int 1)))) .nil)))) .nil)⟩
/-- over: one other -/
def f_over : Fn := ⟨2, [false, false], (.seq (.ret (.call 3 (.cons (.bin .mul (.idx (.var 0) (.con (.int 0))) (.idx (.var 1) (.con (.int 1)))) (.cons (.bin .mul (.idx (.var 0) (.con (.int 1))) (.idx (.var 1) (.con (.int 0)))) .nil)))) .nil)⟩
/-- fraction_sum: one other -/
def f_fraction_sum : Fn := ⟨2, [false, false], (.seq (.exp (.call 2 (.cons (.var 0) .nil))) (.seq (.exp (.call 2 (.cons (.var 1) .nil))) (.seq (.ret (.call 4 (.cons (.var 0) (.cons (.var 1) .nil)))) .nil)))⟩
/-- fraction_product: one other -/
def f_fraction_product : Fn := ⟨2, [false, false], (.seq (.exp (.call 2 (.cons (.var 0) .nil))) (.seq (.exp (.call 2 (.cons (.var 1) .nil))) (.seq (.ret (.call 6 (.cons (.var 0) (.cons (.var 1) .nil)))) .nil)))⟩
/-- fraction_by: one other -/
def f_fraction_by : Fn := ⟨2, [false, false], (.seq (.exp (.call 2 (.cons (.var 0) .nil))) (.seq (.exp (.call 2 (.cons (.var 1) .nil))) (.seq (.iff (.cmp .eq (.idx (.var 1) (.con (.int 0))) (.con (.int 0))) (.seq (.rse 2) .nil) .nil) (.seq (.ret (.call 7 (.cons (.var 0) (.cons (.var 1) .nil)))) .nil))))⟩
/-- is_most: one other -/
def f_is_most : Fn := ⟨2, [false, false], (.seq (.ret (.cmp .le (.bin .mul (.idx (.var 0) (.con (.int 0))) (.idx (.var 1) (.con (.int 1)))) (.bin .mul (.idx (.var 1) (.con (.int 0))) (.idx (.var 0) (.con (.int 1)))))) .nil)⟩
/-- at_most: one other -/
def f_at_most : Fn := ⟨2, [false, false], (.seq (.exp (.call 2 (.cons (.var 0) .nil))) (.seq (.exp (.call 2 (.cons (.var 1) .nil))) (.seq (.ret (.call 11 (.cons (.var 0) (.cons (.var 1) .nil)))) .nil)))⟩
/-- is_field_number: value -/
def f_is_field_number : Fn := ⟨1, [false], (.seq (.iff (.or (.not (.call 0 (.cons (.var 0) (.cons (.con (.int 3)) (.cons (.con (.int 3)) .nil))))) (.or (.ist .bool (.idx (.var 0) (.con (.int 0)))) (.not (.ist .int (.idx (.var 0) (.con (.int 0))))))) (.seq (.ret (.con (.bl false))) .nil) .nil) (.seq (.iff (.cmp .notin (.idx (.var 0) (.con (.int 0))) (.glc 0)) (.seq (.ret (.con (.bl false))) .nil) .nil) (.seq (.iff (.or (.not (.call 1 (.cons (.idx (.var 0) (.con (.int 1))) .nil))) (.not (.call 1 (.cons (.idx (.var 0) (.con (.int 2))) .nil)))) (.seq (.ret (.con (.bl false))) .nil) .nil) (.seq (.ret (.or (.cmp .gt (.idx (.var 0) (.con (.int 0))) (.con (.int 1))) (.cmp .eq (.idx (.var 0) (.con (.int 2))) (.glc 1)))) .nil))))⟩
/-- need_number: value -/
def f_need_number : Fn := ⟨1, [false], (.seq (.iff (.not (.call 13 (.cons (.var 0) .nil))) (.seq (.rse 3) .nil) .nil) .nil)⟩
/-- root_of_both: one other -/
def f_root_of_both : Fn := ⟨2, [false, false], (.seq (.iff (.or (.cmp .eq (.idx (.var 0) (.con (.int 0))) (.con (.int 1))) (.cmp .eq (.idx (.var 0) (.con (.int 0))) (.idx (.var 1) (.con (.int 0))))) (.seq (.ret (.idx (.var 1) (.con (.int 0)))) .nil) .nil) (.seq (.ret (.ite (.cmp .eq (.idx (.var 1) (.con (.int 0))) (.con (.int 1))) (.idx (.var 0) (.con (.int 0))) (.con .non))) .nil))⟩
/-- need_root: one other root -/
def f_need_root : Fn := ⟨3, [false, false], (.seq (.set 2 (.call 15 (.cons (.var 0) (.cons (.var 1) .nil)))) (.seq (.iff (.cmp .is (.var 2) (.con .non)) (.seq (.rse 4) .nil) .nil) (.seq (.ret (.var 2)) .nil)))⟩
/-- field_plus: one other -/
def f_field_plus : Fn := ⟨2, [false, false], (.seq (.ret (.tup (.cons (.blt .max2 (.cons (.idx (.var 0) (.con (.int 0))) (.cons (.idx (.var 1) (.con (.int 0))) .nil))) (.cons (.call 4 (.cons (.idx (.var 0) (.con (.int 1))) (.cons (.idx (.var 1) (.con (.int 1))) .nil))) (.cons (.call 4 (.cons (.idx (.var 0) (.con (.int 2))) (.cons (.idx (.var 1) (.con (.int 2))) .nil))) .nil))))) .nil)⟩
/-- field_times: one other root first -/
def f_field_times : Fn := ⟨4, [false, false], (.seq (.set 2 (.blt .max2 (.cons (.idx (.var 0) (.con (.int 0))) (.cons (.idx (.var 1) (.con (.int 0))) .nil)))) (.seq (.set 3 (.call 4 (.cons (.call 6 (.cons (.idx (.var 0) (.con (.int 1))) (.cons (.idx (.var 1) (.con (.int 1))) .nil))) (.cons (.call 6 (.cons (.tup (.cons (.var 2) (.cons (.con (.int 1)) .nil))) (.cons (.call 6 (.cons (.idx (.var 0) (.con (.int 2))) (.cons (.idx (.var 1) (.con (.int 2))) .nil))) .nil))) .nil)))) (.seq (.ret (.tup (.cons (.var 2) (.cons (.var 3) (.cons (.call 4 (.cons (.call 6 (.cons (.idx (.var 0) (.con (.int 1))) (.cons (.idx (.var 1) (.con (.int 2))) .nil))) (.cons (.call 6 (.cons (.idx (.var 0) (.con (.int 2))) (.cons (.idx (.var 1) (.con (.int 1))) .nil))) .nil))) .nil))))) .nil)))⟩
/-- is_nothing: number -/
def f_is_nothing : Fn := ⟨1, [false], (.seq (.ret (.and (.cmp .eq (.idx (.var 0) (.con (.int 1))) (.glc 1)) (.cmp .eq (.idx (.var 0) (.con (.int 2))) (.glc 1)))) .nil)⟩
/-- field_inverse: number root one two size -/
def f_field_inverse : Fn := ⟨5, [false], (.seq (.unp (.ttp (.cons (.tnm 1) (.cons (.tnm 2) (.cons (.tnm 3) .nil)))) (.var 0)) (.seq (.set 4 (.call 5 (.cons (.call 6 (.cons (.var 2) (.cons (.var 2) .nil))) (.cons (.call 6 (.cons (.tup (.cons (.var 1) (.cons (.con (.int 1)) .nil))) (.cons (.call 6 (.cons (.var 3) (.cons (.var 3) .nil))) .nil))) .nil)))) (.seq (.ret (.tup (.cons (.var 1) (.cons (.call 7 (.cons (.var 2) (.cons (.var 4) .nil))) (.cons (.call 7 (.cons (.call 6 (.cons (.tup (.cons (.neg (.con (.int 1))) (.cons (.con (.int 1)) .nil))) (.cons (.var 3) .nil))) (.cons (.var 4) .nil))) .nil))))) .nil)))⟩
/-- number_sum: one other -/
def f_number_sum : Fn := ⟨2, [false, false], (.seq (.exp (.call 14 (.cons (.var 0) .nil))) (.seq (.exp (.call 14 (.cons (.var 1) .nil))) (.seq (.exp (.call 16 (.cons (.var 0) (.cons (.var 1) .nil)))) (.seq (.ret (.call 17 (.cons (.var 0) (.cons (.var 1) .nil)))) .nil))))⟩
/-- number_product: one other -/
def f_number_product : Fn := ⟨2, [false, false], (.seq (.exp (.call 14 (.cons (.var 0) .nil))) (.seq (.exp (.call 14 (.cons (.var 1) .nil))) (.seq (.exp (.call 16 (.cons (.var 0) (.cons (.var 1) .nil)))) (.seq (.ret (.call 18 (.cons (.var 0) (.cons (.var 1) .nil)))) .nil))))⟩
/-- number_by: one other -/
def f_number_by : Fn := ⟨2, [false, false], (.seq (.exp (.call 14 (.cons (.var 0) .nil))) (.seq (.exp (.call 14 (.cons (.var 1) .nil))) (.seq (.exp (.call 16 (.cons (.var 0) (.cons (.var 1) .nil)))) (.seq (.iff (.call 19 (.cons (.var 1) .nil)) (.seq (.rse 2) .nil) .nil) (.seq (.ret (.call 18 (.cons (.var 0) (.cons (.call 20 (.cons (.var 1) .nil)) .nil)))) .nil)))))⟩
/-- _law_cup: script cell -/
def f_law_cup : Fn := ⟨2, [false], (.seq (.set 1 (.blt .abs (.cons (.idx (.bin .add (.blt .list (.cons (.var 0) .nil)) (.lst (.cons (.con (.int 0)) .nil))) (.con (.int 0))) .nil))) (.seq (.ret (.lst (.cons (.ite (.cmp .ge (.var 1) (.bin .pow (.con (.int 10)) (.con (.int 18)))) (.bin .fdiv (.var 1) (.con (.int 293))) (.con (.int 0))) (.cons (.bin .mod (.blt .int (.cons (.bin .add (.bin .mul (.var 1) (.con (.int 1069))) (.con (.int 91571))) .nil)) (.con (.int 1048576))) .nil)))) .nil))⟩
/-- _law_roll: cup many found -/
def f_law_roll : Fn := ⟨3, [true, false], (.seq (.iff (.cmp .gt (.idx (.bor 0) (.con (.int 0))) (.con (.int 0))) (.seq (.set 2 (.bin .mod (.blt .int (.cons (.idx (.bor 0) (.con (.int 0))) .nil)) (.var 1))) (.seq (.sub 0 (.con (.int 0)) (.bin .fdiv (.idx (.bor 0) (.con (.int 0))) (.var 1))) (.seq (.ret (.var 2)) .nil))) .nil) (.seq (.sub 0 (.con (.int 1)) (.bin .mod (.blt .int (.cons (.bin .add (.bin .mul (.idx (.bor 0) (.con (.int 1))) (.con (.int 20161))) (.con (.int 42299))) .nil)) (.con (.int 1048576)))) (.seq (.ret (.bin .mod (.blt .int (.cons (.bin .fdiv (.idx (.bor 0) (.con (.int 1))) (.con (.int 127))) .nil)) (.var 1))) .nil)))⟩
/-- _law_some: cup things -/
def f_law_some : Fn := ⟨2, [true, false], (.seq (.ret (.idx (.var 1) (.call 25 (.cons (.bor 0) (.cons (.blt .len (.cons (.var 1) .nil)) .nil))))) .nil)⟩
/-- _law_sort: value -/
def f_law_sort : Fn := ⟨1, [false], (.seq (.iff (.or (.cmp .is (.var 0) (.con .non)) (.ist .bool (.var 0))) (.seq (.ret (.ite (.cmp .is (.var 0) (.con .non)) (.con (.int 0)) (.con (.int 1)))) .nil) .nil) (.seq (.iff (.or (.ist .int (.var 0)) (.ist .str (.var 0))) (.seq (.ret (.ite (.ist .int (.var 0)) (.con (.int 2)) (.con (.int 3)))) .nil) .nil) (.seq (.ret (.ite (.ist .tuple (.var 0)) (.con (.int 4)) (.ite (.ist .list (.var 0)) (.con (.int 5)) (.con (.int 6))))) .nil)))⟩
/-- _law_like: one other sort first second -/
def f_law_like : Fn := ⟨5, [false, false], (.seq (.set 2 (.call 27 (.cons (.var 1) .nil))) (.seq (.iff (.or (.cmp .ne (.call 27 (.cons (.var 0) .nil)) (.var 2)) (.cmp .eq (.var 2) (.con (.int 6)))) (.seq (.ret (.con (.bl false))) .nil) .nil) (.seq (.iff (.cmp .isin (.var 2) (.tup (.cons (.con (.int 4)) (.cons (.con (.int 5)) .nil)))) (.seq (.ret (.and (.cmp .eq (.blt .len (.cons (.var 0) .nil)) (.blt .len (.cons (.var 1) .nil))) (.cmp .eq (.cmp1 [3, 4] (.ttp (.cons (.tnm 3) (.cons (.tnm 4) .nil))) (.itr .zip (.cons (.var 0) (.cons (.var 1) .nil))) (.not (.call 28 (.cons (.var 3) (.cons (.var 4) .nil)))) (.con (.int 1))) (.lst .nil)))) .nil) .nil) (.seq (.ret (.cmp .eq (.var 0) (.var 1))) .nil))))⟩
/-- _law_lowest: top bottom one other step -/
def f_law_lowest : Fn := ⟨5, [false, false], (.seq (.par (.cons (.tnm 2) (.cons (.tnm 3) .nil)) (.cons (.blt .abs (.cons (.var 0) .nil)) (.cons (.blt .abs (.cons (.var 1) .nil)) .nil))) (.seq (.for_ (.tnm 4) (.itr .rng1 (.cons (.con (.int 6000)) .nil)) (.seq (.iff (.cmp .eq (.var 3) (.con (.int 0))) (.seq .brk .nil) .nil) (.seq (.par (.cons (.tnm 2) (.cons (.tnm 3) .nil)) (.cons (.var 3) (.cons (.bin .mod (.blt .int (.cons (.var 2) .nil)) (.var 3)) .nil))) .nil))) (.seq (.par (.cons (.tnm 0) (.cons (.tnm 1) .nil)) (.cons (.bin .fdiv (.var 0) (.var 2)) (.cons (.bin .fdiv (.var 1) (.var 2)) .nil))) (.seq (.ret (.ite (.cmp .gt (.var 1) (.con (.int 0))) (.tup (.cons (.var 0) (.cons (.var 1) .nil))) (.tup (.cons (.neg (.var 0)) (.cons (.neg (.var 1)) .nil))))) .nil))))⟩
/-- _law_plus: one other -/
def f_law_plus : Fn := ⟨2, [false, false], (.seq (.ret (.call 29 (.cons (.bin .add (.bin .mul (.idx (.var 0) (.con (.int 0))) (.idx (.var 1) (.con (.int 1)))) (.bin .mul (.idx (.var 1) (.con (.int 0))) (.idx (.var 0) (.con (.int 1))))) (.cons (.bin .mul (.idx (.var 0) (.con (.int 1))) (.idx (.var 1) (.con (.int 1)))) .nil)))) .nil)⟩
/-- _law_times: one other -/
def f_law_times : Fn := ⟨2, [false, false], (.seq (.ret (.call 29 (.cons (.bin .mul (.idx (.var 0) (.con (.int 0))) (.idx (.var 1) (.con (.int 0)))) (.cons (.bin .mul (.idx (.var 0) (.con (.int 1))) (.idx (.var 1) (.con (.int 1)))) .nil)))) .nil)⟩
/-- _law_fraction: cup far top -/
def f_law_fraction : Fn := ⟨3, [true], (.seq (.set 1 (.call 26 (.cons (.bor 0) (.cons (.lst (.cons (.con (.int 4)) (.cons (.con (.int 12)) (.cons (.bin .pow (.con (.int 10)) (.con (.int 6))) (.cons (.bin .pow (.con (.int 10)) (.con (.int 20))) .nil))))) .nil)))) (.seq (.set 2 (.ite (.cmp .gt (.call 25 (.cons (.bor 0) (.cons (.con (.int 3)) .nil))) (.con (.int 0))) (.bin .sub (.call 25 (.cons (.bor 0) (.cons (.con (.int 9)) .nil))) (.con (.int 4))) (.bin .mul (.bin .sub (.con (.int 1)) (.bin .mul (.con (.int 2)) (.call 25 (.cons (.bor 0) (.cons (.con (.int 2)) .nil))))) (.bin .add (.var 1) (.call 25 (.cons (.bor 0) (.cons (.con (.int 30)) .nil))))))) (.seq (.ret (.call 29 (.cons (.var 2) (.cons (.call 26 (.cons (.bor 0) (.cons (.lst (.cons (.con (.int 1)) (.cons (.con (.int 2)) (.cons (.con (.int 3)) (.cons (.con (.int 6)) (.cons (.bin .add (.var 1) (.call 25 (.cons (.bor 0) (.cons (.con (.int 7)) .nil)))) .nil)))))) .nil))) .nil)))) .nil)))⟩
/-- _law_field: cup root -/
def f_law_field : Fn := ⟨2, [true, false], (.seq (.ret (.tup (.cons (.var 1) (.cons (.call 32 (.cons (.bor 0) .nil)) (.cons (.ite (.cmp .gt (.var 1) (.con (.int 1))) (.call 32 (.cons (.bor 0) .nil)) (.tup (.cons (.con (.int 0)) (.cons (.con (.int 1)) .nil)))) .nil))))) .nil)⟩
/-- _law_field_times: one other root first -/
def f_law_field_times : Fn := ⟨4, [false, false], (.seq (.set 2 (.ite (.cmp .gt (.idx (.var 0) (.con (.int 0))) (.idx (.var 1) (.con (.int 0)))) (.idx (.var 0) (.con (.int 0))) (.idx (.var 1) (.con (.int 0))))) (.seq (.set 3 (.call 30 (.cons (.call 31 (.cons (.idx (.var 0) (.con (.int 1))) (.cons (.idx (.var 1) (.con (.int 1))) .nil))) (.cons (.call 31 (.cons (.tup (.cons (.var 2) (.cons (.con (.int 1)) .nil))) (.cons (.call 31 (.cons (.idx (.var 0) (.con (.int 2))) (.cons (.idx (.var 1) (.con (.int 2))) .nil))) .nil))) .nil)))) (.seq (.ret (.tup (.cons (.var 2) (.cons (.var 3) (.cons (.call 30 (.cons (.call 31 (.cons (.idx (.var 0) (.con (.int 1))) (.cons (.idx (.var 1) (.con (.int 2))) .nil))) (.cons (.call 31 (.cons (.idx (.var 0) (.con (.int 2))) (.cons (.idx (.var 1) (.con (.int 1))) .nil))) .nil))) .nil))))) .nil)))⟩
/-- _law_field_plus: one other -/
def f_law_field_plus : Fn := ⟨2, [false, false], (.seq (.ret (.tup (.cons (.ite (.cmp .gt (.idx (.var 0) (.con (.int 0))) (.idx (.var 1) (.con (.int 0)))) (.idx (.var 0) (.con (.int 0))) (.idx (.var 1) (.con (.int 0)))) (.cons (.call 30 (.cons (.idx (.var 0) (.con (.int 1))) (.cons (.idx (.var 1) (.con (.int 1))) .nil))) (.cons (.call 30 (.cons (.idx (.var 0) (.con (.int 2))) (.cons (.idx (.var 1) (.con (.int 2))) .nil))) .nil))))) .nil)⟩
/-- _law_fractions_right: cup one other told back -/
def f_law_fractions_right : Fn := ⟨5, [true], (.seq (.unp (.ttp (.cons (.tnm 1) (.cons (.tnm 2) .nil))) (.tup (.cons (.call 32 (.cons (.bor 0) .nil)) (.cons (.call 32 (.cons (.bor 0) .nil)) .nil)))) (.seq (.set 3 (.lst (.cons (.call 8 (.cons (.var 1) (.cons (.var 2) .nil))) (.cons (.call 9 (.cons (.var 1) (.cons (.var 2) .nil))) (.cons (.call 12 (.cons (.var 1) (.cons (.var 2) .nil))) (.cons (.call 1 (.cons (.var 1) .nil)) .nil)))))) (.seq (.iff (.not (.call 28 (.cons (.var 3) (.cons (.lst (.cons (.call 30 (.cons (.var 1) (.cons (.var 2) .nil))) (.cons (.call 31 (.cons (.var 1) (.cons (.var 2) .nil))) (.cons (.cmp .le (.bin .mul (.idx (.var 1) (.con (.int 0))) (.idx (.var 2) (.con (.int 1)))) (.bin .mul (.idx (.var 2) (.con (.int 0))) (.idx (.var 1) (.con (.int 1))))) (.cons (.con (.bl true)) .nil))))) .nil)))) (.seq (.ret (.con (.bl false))) .nil) .nil) (.seq (.iff (.cmp .eq (.idx (.var 2) (.con (.int 0))) (.con (.int 0))) (.seq (.ret (.cmp .eq (.lam 0 (.call 10 (.cons (.var 1) (.cons (.var 2) .nil)))) (.con (.str ⟨#[110, 111]⟩)))) .nil) .nil) (.seq (.set 4 (.call 10 (.cons (.var 1) (.cons (.var 2) .nil)))) (.seq (.ret (.call 28 (.cons (.lst (.cons (.call 1 (.cons (.var 4) .nil)) (.cons (.call 31 (.cons (.var 4) (.cons (.var 2) .nil))) .nil))) (.cons (.lst (.cons (.con (.bl true)) (.cons (.var 1) .nil))) .nil)))) .nil))))))⟩
/-- _law_fields_right: cup root one other told back great -/
def f_law_fields_right : Fn := ⟨7, [true], (.seq (.set 1 (.call 26 (.cons (.bor 0) (.cons (.lst (.cons (.con (.int 1)) (.cons (.con (.int 2)) (.cons (.con (.int 3)) (.cons (.con (.int 5)) .nil))))) .nil)))) (.seq (.unp (.ttp (.cons (.tnm 2) (.cons (.tnm 3) .nil))) (.tup (.cons (.call 33 (.cons (.bor 0) (.cons (.var 1) .nil))) (.cons (.call 33 (.cons (.bor 0) (.cons (.call 26 (.cons (.bor 0) (.cons (.lst (.cons (.con (.int 1)) (.cons (.var 1) .nil))) .nil))) .nil))) .nil)))) (.seq (.iff (.cmp .eq (.call 25 (.cons (.bor 0) (.cons (.con (.int 2)) .nil))) (.con (.int 0))) (.seq (.unp (.ttp (.cons (.tnm 2) (.cons (.tnm 3) .nil))) (.tup (.cons (.var 3) (.cons (.var 2) .nil)))) .nil) .nil) (.seq (.set 4 (.lst (.cons (.call 13 (.cons (.var 2) .nil)) (.cons (.call 21 (.cons (.var 2) (.cons (.var 3) .nil))) (.cons (.call 21 (.cons (.var 3) (.cons (.var 2) .nil))) (.cons (.call 22 (.cons (.var 2) (.cons (.var 3) .nil))) (.cons (.call 22 (.cons (.var 3) (.cons (.var 2) .nil))) .nil))))))) (.seq (.iff (.not (.call 28 (.cons (.var 4) (.cons (.lst (.cons (.con (.bl true)) (.cons (.call 35 (.cons (.var 2) (.cons (.var 3) .nil))) (.cons (.call 35 (.cons (.var 2) (.cons (.var 3) .nil))) (.cons (.call 34 (.cons (.var 2) (.cons (.var 3) .nil))) (.cons (.call 34 (.cons (.var 2) (.cons (.var 3) .nil))) .nil)))))) .nil)))) (.seq (.ret (.con (.bl false))) .nil) .nil) (.seq (.iff (.and (.cmp .eq (.idx (.idx (.var 3) (.con (.int 1))) (.con (.int 0))) (.con (.int 0))) (.cmp .eq (.idx (.idx (.var 3) (.con (.int 2))) (.con (.int 0))) (.con (.int 0)))) (.seq (.ret (.cmp .eq (.lam 0 (.call 23 (.cons (.var 2) (.cons (.var 3) .nil)))) (.con (.str ⟨#[110, 111]⟩)))) .nil) .nil) (.seq (.par (.cons (.tnm 5) (.cons (.tnm 6) .nil)) (.cons (.call 23 (.cons (.var 2) (.cons (.var 3) .nil))) (.cons (.ite (.cmp .gt (.idx (.var 2) (.con (.int 0))) (.idx (.var 3) (.con (.int 0)))) (.idx (.var 2) (.con (.int 0))) (.idx (.var 3) (.con (.int 0)))) .nil))) (.seq (.ret (.call 28 (.cons (.lst (.cons (.call 13 (.cons (.var 5) .nil)) (.cons (.call 34 (.cons (.var 5) (.cons (.var 3) .nil))) .nil))) (.cons (.lst (.cons (.con (.bl true)) (.cons (.tup (.cons (.var 6) (.cons (.idx (.var 2) (.con (.int 1))) (.cons (.idx (.var 2) (.con (.int 2))) .nil)))) .nil))) .nil)))) .nil))))))))⟩
/-- _law_limits_right: cup golden two root told due odds bent odd words name -/
def f_law_limits_right : Fn := ⟨11, [true], (.seq (.unp (.ttp (.cons (.tnm 1) (.cons (.tnm 2) (.cons (.tnm 3) .nil)))) (.tup (.cons (.tup (.cons (.con (.int 5)) (.cons (.tup (.cons (.con (.int 1)) (.cons (.con (.int 2)) .nil))) (.cons (.tup (.cons (.con (.int 1)) (.cons (.con (.int 2)) .nil))) .nil)))) (.cons (.tup (.cons (.con (.int 1)) (.cons (.tup (.cons (.con (.int 2)) (.cons (.con (.int 1)) .nil))) (.cons (.tup (.cons (.con (.int 0)) (.cons (.con (.int 1)) .nil))) .nil)))) (.cons (.tup (.cons (.con (.int 2)) (.cons (.tup (.cons (.con (.int 0)) (.cons (.con (.int 1)) .nil))) (.cons (.tup (.cons (.con (.int 1)) (.cons (.con (.int 1)) .nil))) .nil)))) .nil))))) (.seq (.set 4 (.lst (.cons (.call 21 (.cons (.var 1) (.cons (.var 1) .nil))) (.cons (.call 22 (.cons (.var 1) (.cons (.var 1) .nil))) (.cons (.call 23 (.cons (.var 2) (.cons (.var 1) .nil))) (.cons (.call 22 (.cons (.var 3) (.cons (.var 3) .nil))) (.cons (.call 21 (.cons (.var 2) (.cons (.tup (.cons (.con (.int 3)) (.cons (.tup (.cons (.con (.int 1)) (.cons (.con (.int 1)) .nil))) (.cons (.tup (.cons (.con (.int 1)) (.cons (.con (.int 1)) .nil))) .nil)))) .nil))) .nil))))))) (.seq (.set 5 (.lst (.cons (.tup (.cons (.con (.int 5)) (.cons (.tup (.cons (.con (.int 1)) (.cons (.con (.int 1)) .nil))) (.cons (.tup (.cons (.con (.int 1)) (.cons (.con (.int 1)) .nil))) .nil)))) (.cons (.tup (.cons (.con (.int 5)) (.cons (.tup (.cons (.con (.int 3)) (.cons (.con (.int 2)) .nil))) (.cons (.tup (.cons (.con (.int 1)) (.cons (.con (.int 2)) .nil))) .nil)))) (.cons (.tup (.cons (.con (.int 5)) (.cons (.tup (.cons (.neg (.con (.int 1))) (.cons (.con (.int 1)) .nil))) (.cons (.tup (.cons (.con (.int 1)) (.cons (.con (.int 1)) .nil))) .nil)))) (.cons (.tup (.cons (.con (.int 2)) (.cons (.tup (.cons (.con (.int 2)) (.cons (.con (.int 1)) .nil))) (.cons (.tup (.cons (.con (.int 0)) (.cons (.con (.int 1)) .nil))) .nil)))) (.cons (.tup (.cons (.con (.int 3)) (.cons (.tup (.cons (.con (.int 3)) (.cons (.con (.int 1)) .nil))) (.cons (.tup (.cons (.con (.int 1)) (.cons (.con (.int 1)) .nil))) .nil)))) .nil))))))) (.seq (.set 4 (.bin .add (.var 4) (.lst (.cons (.call 8 (.cons (.tup (.cons (.con (.int 1)) (.cons (.con (.int 2)) .nil))) (.cons (.tup (.cons (.con (.int 1)) (.cons (.con (.int 3)) .nil))) .nil))) (.cons (.call 9 (.cons (.tup (.cons (.con (.int 2)) (.cons (.con (.int 3)) .nil))) (.cons (.tup (.cons (.neg (.con (.int 3))) (.cons (.con (.int 4)) .nil))) .nil))) (.cons (.call 10 (.cons (.tup (.cons (.con (.int 1)) (.cons (.con (.int 2)) .nil))) (.cons (.tup (.cons (.neg (.con (.int 3))) (.cons (.con (.int 1)) .nil))) .nil))) (.cons (.call 12 (.cons (.tup (.cons (.con (.int 2)) (.cons (.con (.int 3)) .nil))) (.cons (.tup (.cons (.con (.int 3)) (.cons (.con (.int 4)) .nil))) .nil))) (.cons (.call 12 (.cons (.tup (.cons (.con (.int 3)) (.cons (.con (.int 4)) .nil))) (.cons (.tup (.cons (.con (.int 2)) (.cons (.con (.int 3)) .nil))) .nil))) .nil)))))))) (.seq (.set 5 (.bin .add (.var 5) (.lst (.cons (.tup (.cons (.con (.int 5)) (.cons (.con (.int 6)) .nil))) (.cons (.tup (.cons (.neg (.con (.int 1))) (.cons (.con (.int 2)) .nil))) (.cons (.tup (.cons (.neg (.con (.int 1))) (.cons (.con (.int 6)) .nil))) (.cons (.con (.bl true)) (.cons (.con (.bl false)) .nil)))))))) (.seq (.set 4 (.bin .add (.var 4) (.lst (.cons (.call 23 (.cons (.tup (.cons (.con (.int 3)) (.cons (.tup (.cons (.con (.int 1)) (.cons (.con (.int 1)) .nil))) (.cons (.tup (.cons (.con (.int 0)) (.cons (.con (.int 1)) .nil))) .nil)))) (.cons (.tup (.cons (.con (.int 3)) (.cons (.tup (.cons (.con (.int 0)) (.cons (.con (.int 1)) .nil))) (.cons (.tup (.cons (.con (.int 1)) (.cons (.con (.int 1)) .nil))) .nil)))) .nil))) (.cons (.call 23 (.cons (.var 3) (.cons (.var 2) .nil))) .nil))))) (.seq (.set 5 (.bin .add (.var 5) (.lst (.cons (.tup (.cons (.con (.int 3)) (.cons (.tup (.cons (.con (.int 0)) (.cons (.con (.int 1)) .nil))) (.cons (.tup (.cons (.con (.int 1)) (.cons (.con (.int 3)) .nil))) .nil)))) (.cons (.tup (.cons (.con (.int 2)) (.cons (.tup (.cons (.con (.int 0)) (.cons (.con (.int 1)) .nil))) (.cons (.tup (.cons (.con (.int 1)) (.cons (.con (.int 2)) .nil))) .nil)))) .nil))))) (.seq (.iff (.not (.call 28 (.cons (.var 4) (.cons (.var 5) .nil)))) (.seq (.ret (.con (.bl false))) .nil) .nil) (.seq (.set 6 (.lst (.cons (.con .non) (.cons (.tup .nil) (.cons (.tup (.cons (.con (.int 1)) .nil)) (.cons (.tup (.cons (.con (.int 1)) (.cons (.con (.int 2)) (.cons (.con (.int 3)) .nil)))) (.cons (.tup (.cons (.con (.int 2)) (.cons (.con (.int 4)) .nil))) (.cons (.tup (.cons (.con (.int 1)) (.cons (.con (.int 0)) .nil))) (.cons (.tup (.cons (.con (.int 1)) (.cons (.neg (.con (.int 2))) .nil))) (.cons (.lst (.cons (.con (.int 1)) (.cons (.con (.int 2)) .nil))) (.cons (.tup (.cons (.con (.bl true)) (.cons (.con (.int 2)) .nil))) (.cons (.tup (.cons (.con (.int 1)) (.cons (.con (.bl true)) .nil))) (.cons (.con (.int 1)) (.cons (.tup (.cons (.con (.int 0)) (.cons (.con (.int 2)) .nil))) (.cons (.tup (.cons (.con (.int 1)) (.cons (.con (.str ⟨#[50]⟩)) .nil))) .nil))))))))))))))) (.seq (.set 7 (.lst (.cons (.con .non) (.cons (.tup .nil) (.cons (.tup (.cons (.con (.int 1)) (.cons (.tup (.cons (.con (.int 1)) (.cons (.con (.int 2)) .nil))) .nil))) (.cons (.tup (.cons (.con (.int 1)) (.cons (.tup (.cons (.con (.int 1)) (.cons (.con (.int 2)) .nil))) (.cons (.tup (.cons (.con (.int 1)) (.cons (.con (.int 1)) .nil))) .nil)))) (.cons (.tup (.cons (.con (.int 4)) (.cons (.tup (.cons (.con (.int 1)) (.cons (.con (.int 2)) .nil))) (.cons (.tup (.cons (.con (.int 0)) (.cons (.con (.int 1)) .nil))) .nil)))) (.cons (.tup (.cons (.con (.int 0)) (.cons (.tup (.cons (.con (.int 1)) (.cons (.con (.int 2)) .nil))) (.cons (.tup (.cons (.con (.int 0)) (.cons (.con (.int 1)) .nil))) .nil)))) (.cons (.tup (.cons (.con (.int 2)) (.cons (.tup (.cons (.con (.int 2)) (.cons (.con (.int 4)) .nil))) (.cons (.tup (.cons (.con (.int 0)) (.cons (.con (.int 1)) .nil))) .nil)))) (.cons (.tup (.cons (.con (.int 2)) (.cons (.tup (.cons (.con (.int 1)) (.cons (.con (.int 2)) .nil))) (.cons (.con (.int 0)) .nil)))) .nil)))))))))) (.seq (.set 7 (.bin .add (.var 7) (.lst (.cons (.lst (.cons (.con (.int 2)) (.cons (.tup (.cons (.con (.int 1)) (.cons (.con (.int 2)) .nil))) (.cons (.tup (.cons (.con (.int 0)) (.cons (.con (.int 1)) .nil))) .nil)))) (.cons (.tup (.cons (.con (.bl true)) (.cons (.tup (.cons (.con (.int 1)) (.cons (.con (.int 2)) .nil))) (.cons (.tup (.cons (.con (.int 0)) (.cons (.con (.int 1)) .nil))) .nil)))) (.cons (.tup (.cons (.con (.int 5)) (.cons (.tup (.cons (.con (.int 1)) (.cons (.con (.int 2)) .nil))) (.cons (.con .non) .nil)))) (.cons (.con (.str ⟨#[50]⟩)) (.cons (.con (.int 2)) .nil)))))))) (.seq (.iff (.not (.call 28 (.cons (.cmp1 [8] (.tnm 8) (.itr .plain (.cons (.bin .add (.var 6) (.lst (.cons (.tup (.cons (.con (.int 0)) (.cons (.con (.int 1)) .nil))) (.cons (.tup (.cons (.neg (.con (.int 3))) (.cons (.con (.int 7)) .nil))) .nil)))) .nil)) .nil (.call 1 (.cons (.var 8) .nil))) (.cons (.bin .add (.bin .mul (.lst (.cons (.con (.bl false)) .nil)) (.con (.int 13))) (.bin .mul (.lst (.cons (.con (.bl true)) .nil)) (.con (.int 2)))) .nil)))) (.seq (.ret (.con (.bl false))) .nil) .nil) (.seq (.iff (.not (.call 28 (.cons (.cmp1 [8] (.tnm 8) (.itr .plain (.cons (.bin .add (.var 7) (.lst (.cons (.var 1) (.cons (.var 2) (.cons (.var 3) (.cons (.tup (.cons (.con (.int 2)) (.cons (.tup (.cons (.con (.int 1)) (.cons (.con (.int 1)) .nil))) (.cons (.tup (.cons (.con (.int 0)) (.cons (.con (.int 1)) .nil))) .nil)))) .nil)))))) .nil)) .nil (.call 13 (.cons (.var 8) .nil))) (.cons (.bin .add (.bin .mul (.lst (.cons (.con (.bl false)) .nil)) (.con (.int 13))) (.bin .mul (.lst (.cons (.con (.bl true)) .nil)) (.con (.int 4)))) .nil)))) (.seq (.ret (.con (.bl false))) .nil) .nil) (.seq (.set 9 (.lst .nil)) (.seq (.for_ (.tnm 8) (.itr .plain (.cons (.var 6) .nil)) (.seq (.for_ (.tnm 10) (.itr .plain (.cons (.tup (.cons (.fnr 8) (.cons (.fnr 9) (.cons (.fnr 10) (.cons (.fnr 12) .nil))))) .nil)) (.seq (.set 9 (.bin .add (.var 9) (.lst (.cons (.lam 0 (.cvar 10 (.cons (.var 8) (.cons (.con .non) .nil)))) .nil)))) (.seq (.set 9 (.bin .add (.var 9) (.lst (.cons (.lam 0 (.cvar 10 (.cons (.tup (.cons (.con (.int 1)) (.cons (.con (.int 2)) .nil))) (.cons (.var 8) .nil)))) .nil)))) .nil))) .nil)) (.seq (.for_ (.tnm 8) (.itr .plain (.cons (.var 7) .nil)) (.seq (.for_ (.tnm 10) (.itr .plain (.cons (.tup (.cons (.fnr 21) (.cons (.fnr 22) (.cons (.fnr 23) .nil)))) .nil)) (.seq (.set 9 (.bin .add (.var 9) (.lst (.cons (.lam 0 (.cvar 10 (.cons (.var 8) (.cons (.con .non) .nil)))) .nil)))) (.seq (.set 9 (.bin .add (.var 9) (.lst (.cons (.lam 0 (.cvar 10 (.cons (.var 1) (.cons (.var 8) .nil)))) .nil)))) .nil))) .nil)) (.seq (.for_ (.tnm 10) (.itr .plain (.cons (.tup (.cons (.fnr 21) (.cons (.fnr 22) (.cons (.fnr 23) .nil)))) .nil)) (.seq (.set 9 (.bin .add (.var 9) (.lst (.cons (.lam 0 (.cvar 10 (.cons (.var 1) (.cons (.var 3) .nil)))) .nil)))) (.seq (.set 9 (.bin .add (.var 9) (.lst (.cons (.lam 0 (.cvar 10 (.cons (.var 3) (.cons (.tup (.cons (.con (.int 3)) (.cons (.tup (.cons (.con (.int 0)) (.cons (.con (.int 1)) .nil))) (.cons (.tup (.cons (.con (.int 0)) (.cons (.con (.int 1)) .nil))) .nil)))) .nil)))) .nil)))) .nil))) (.seq (.set 9 (.bin .add (.var 9) (.lst (.cons (.lam 0 (.call 23 (.cons (.var 1) (.cons (.tup (.cons (.con (.int 1)) (.cons (.tup (.cons (.con (.int 0)) (.cons (.con (.int 1)) .nil))) (.cons (.tup (.cons (.con (.int 0)) (.cons (.con (.int 1)) .nil))) .nil)))) .nil)))) .nil)))) (.seq (.set 9 (.bin .add (.var 9) (.lst (.cons (.lam 0 (.call 23 (.cons (.var 2) (.cons (.tup (.cons (.con (.int 5)) (.cons (.tup (.cons (.con (.int 0)) (.cons (.con (.int 1)) .nil))) (.cons (.tup (.cons (.con (.int 0)) (.cons (.con (.int 1)) .nil))) .nil)))) .nil)))) .nil)))) (.seq (.ret (.cmp .eq (.var 9) (.bin .add (.bin .add (.bin .add (.bin .mul (.lst (.cons (.con (.str ⟨#[102, 114, 97, 99, 116, 105, 111, 110]⟩)) .nil)) (.con (.int 104))) (.bin .mul (.lst (.cons (.con (.str ⟨#[110, 117, 109, 98, 101, 114]⟩)) .nil)) (.con (.int 78)))) (.bin .mul (.lst (.cons (.con (.str ⟨#[110, 111, 119]⟩)) .nil)) (.con (.int 6)))) (.bin .mul (.lst (.cons (.con (.str ⟨#[110, 111]⟩)) .nil)) (.con (.int 2)))))) .nil))))))))))))))))))))⟩
/-- law: script cup turn -/
def f_law : Fn := ⟨3, [false], (.seq (.own 1 (.call 24 (.cons (.var 0) .nil))) (.seq (.iff (.not (.call 38 (.cons (.bor 1) .nil))) (.seq (.ret (.con (.bl false))) .nil) .nil) (.seq (.for_ (.tnm 2) (.itr .rng1 (.cons (.con (.int 15)) .nil)) (.seq (.iff (.or (.not (.call 36 (.cons (.bor 1) .nil))) (.not (.call 37 (.cons (.bor 1) .nil)))) (.seq (.ret (.con (.bl false))) .nil) .nil) .nil)) (.seq (.ret (.con (.bl true))) .nil))))⟩
def t_law_error : Tel := ⟨5, 1, (.seq (.set 2 (.lst (.cons (.tup (.cons (.con (.str ⟨#[102, 114, 97, 99, 116, 105, 111, 110]⟩)) (.cons (.isx 1 1) .nil))) (.cons (.tup (.cons (.con (.str ⟨#[110, 117, 109, 98, 101, 114]⟩)) (.cons (.isx 1 3) .nil))) (.cons (.tup (.cons (.con (.str ⟨#[110, 111]⟩)) (.cons (.isx 1 2) .nil))) (.cons (.tup (.cons (.con (.str ⟨#[110, 111, 119]⟩)) (.cons (.isx 1 4) .nil))) .nil)))))) (.seq (.ret (.join (.con (.str ⟨#[]⟩)) (.cmp1 [3, 4] (.ttp (.cons (.tnm 3) (.cons (.tnm 4) .nil))) (.itr .plain (.cons (.var 2) .nil)) (.var 4) (.var 3)))) .nil)), ⟨#[110, 111, 110, 101]⟩⟩
def fns : List Fn := [f_is_tuple_of, f_is_fraction, f_need_fraction, f_lowest, f_plus, f_minus, f_times, f_over, f_fraction_sum, f_fraction_product, f_fraction_by, f_is_most, f_at_most, f_is_field_number, f_need_number, f_root_of_both, f_need_root, f_field_plus, f_field_times, f_is_nothing, f_field_inverse, f_number_sum, f_number_product, f_number_by, f_law_cup, f_law_roll, f_law_some, f_law_sort, f_law_like, f_law_lowest, f_law_plus, f_law_times, f_law_fraction, f_law_field, f_law_field_times, f_law_field_plus, f_law_fractions_right, f_law_fields_right, f_law_limits_right, f_law]
def prg : Prg := ⟨fns, [((.tup [(.int 1), (.int 2), (.int 3), (.int 5)])), ((.tup [(.int 0), (.int 1)]))], [t_law_error], [[0], [0, 1], [0, 2], [0, 3], [0, 4]]⟩
def T : Tbl := { fns := [("is_tuple_of" : Str), ("is_fraction" : Str), ("need_fraction" : Str), ("lowest" : Str), ("plus" : Str), ("minus" : Str), ("times" : Str), ("over" : Str), ("fraction_sum" : Str), ("fraction_product" : Str), ("fraction_by" : Str), ("is_most" : Str), ("at_most" : Str), ("is_field_number" : Str), ("need_number" : Str), ("root_of_both" : Str), ("need_root" : Str), ("field_plus" : Str), ("field_times" : Str), ("is_nothing" : Str), ("field_inverse" : Str), ("number_sum" : Str), ("number_product" : Str), ("number_by" : Str), ("_law_cup" : Str), ("_law_roll" : Str), ("_law_some" : Str), ("_law_sort" : Str), ("_law_like" : Str), ("_law_lowest" : Str), ("_law_plus" : Str), ("_law_times" : Str), ("_law_fraction" : Str), ("_law_field" : Str), ("_law_field_times" : Str), ("_law_field_plus" : Str), ("_law_fractions_right" : Str), ("_law_fields_right" : Str), ("_law_limits_right" : Str), ("law" : Str)], cst := ["ROOTS", "NOTHING"], free := ["abs", "all", "bool", "int", "isinstance", "len", "list", "max", "range", "str", "tuple", "zip"], exc := ["ArchError", "InvalidFraction", "NotFound", "InvalidNumber", "NotNow"], gcd := true, tel := ["_law_error"] }
abbrev s_is_tuple_of : Stmt := top 8
def N_is_tuple_of : List Str := ["value", "low", "high"]
def d_is_tuple_of : He.DefD := ⟨("is_tuple_of", none), "is_tuple_of", "is_tuple_of", defArgs s_is_tuple_of, defBody s_is_tuple_of, defScope s_is_tuple_of, [], []⟩
abbrev s_is_fraction : Stmt := top 10
def N_is_fraction : List Str := ["value", "part"]
def d_is_fraction : He.DefD := ⟨("is_fraction", none), "is_fraction", "is_fraction", defArgs s_is_fraction, defBody s_is_fraction, defScope s_is_fraction, [], []⟩
abbrev s_need_fraction : Stmt := top 11
def N_need_fraction : List Str := ["value"]
def d_need_fraction : He.DefD := ⟨("need_fraction", none), "need_fraction", "need_fraction", defArgs s_need_fraction, defBody s_need_fraction, defScope s_need_fraction, [], []⟩
abbrev s_lowest : Stmt := top 12
def N_lowest : List Str := ["top", "bottom", "shared"]
def d_lowest : He.DefD := ⟨("lowest", none), "lowest", "lowest", defArgs s_lowest, defBody s_lowest, defScope s_lowest, [], []⟩
abbrev s_plus : Stmt := top 13
def N_plus : List Str := ["one", "other"]
def d_plus : He.DefD := ⟨("plus", none), "plus", "plus", defArgs s_plus, defBody s_plus, defScope s_plus, [], []⟩
abbrev s_minus : Stmt := top 14
def N_minus : List Str := ["one", "other"]
def d_minus : He.DefD := ⟨("minus", none), "minus", "minus", defArgs s_minus, defBody s_minus, defScope s_minus, [], []⟩
abbrev s_times : Stmt := top 15
def N_times : List Str := ["one", "other"]
def d_times : He.DefD := ⟨("times", none), "times", "times", defArgs s_times, defBody s_times, defScope s_times, [], []⟩
abbrev s_over : Stmt := top 16
def N_over : List Str := ["one", "other"]
def d_over : He.DefD := ⟨("over", none), "over", "over", defArgs s_over, defBody s_over, defScope s_over, [], []⟩
abbrev s_fraction_sum : Stmt := top 17
def N_fraction_sum : List Str := ["one", "other"]
def d_fraction_sum : He.DefD := ⟨("fraction_sum", none), "fraction_sum", "fraction_sum", defArgs s_fraction_sum, defBody s_fraction_sum, defScope s_fraction_sum, [], []⟩
abbrev s_fraction_product : Stmt := top 18
def N_fraction_product : List Str := ["one", "other"]
def d_fraction_product : He.DefD := ⟨("fraction_product", none), "fraction_product", "fraction_product", defArgs s_fraction_product, defBody s_fraction_product, defScope s_fraction_product, [], []⟩
abbrev s_fraction_by : Stmt := top 19
def N_fraction_by : List Str := ["one", "other"]
def d_fraction_by : He.DefD := ⟨("fraction_by", none), "fraction_by", "fraction_by", defArgs s_fraction_by, defBody s_fraction_by, defScope s_fraction_by, [], []⟩
abbrev s_is_most : Stmt := top 20
def N_is_most : List Str := ["one", "other"]
def d_is_most : He.DefD := ⟨("is_most", none), "is_most", "is_most", defArgs s_is_most, defBody s_is_most, defScope s_is_most, [], []⟩
abbrev s_at_most : Stmt := top 21
def N_at_most : List Str := ["one", "other"]
def d_at_most : He.DefD := ⟨("at_most", none), "at_most", "at_most", defArgs s_at_most, defBody s_at_most, defScope s_at_most, [], []⟩
abbrev s_is_field_number : Stmt := top 25
def N_is_field_number : List Str := ["value"]
def d_is_field_number : He.DefD := ⟨("is_field_number", none), "is_field_number", "is_field_number", defArgs s_is_field_number, defBody s_is_field_number, defScope s_is_field_number, [], []⟩
abbrev s_need_number : Stmt := top 26
def N_need_number : List Str := ["value"]
def d_need_number : He.DefD := ⟨("need_number", none), "need_number", "need_number", defArgs s_need_number, defBody s_need_number, defScope s_need_number, [], []⟩
abbrev s_root_of_both : Stmt := top 27
def N_root_of_both : List Str := ["one", "other"]
def d_root_of_both : He.DefD := ⟨("root_of_both", none), "root_of_both", "root_of_both", defArgs s_root_of_both, defBody s_root_of_both, defScope s_root_of_both, [], []⟩
abbrev s_need_root : Stmt := top 28
def N_need_root : List Str := ["one", "other", "root"]
def d_need_root : He.DefD := ⟨("need_root", none), "need_root", "need_root", defArgs s_need_root, defBody s_need_root, defScope s_need_root, [], []⟩
abbrev s_field_plus : Stmt := top 29
def N_field_plus : List Str := ["one", "other"]
def d_field_plus : He.DefD := ⟨("field_plus", none), "field_plus", "field_plus", defArgs s_field_plus, defBody s_field_plus, defScope s_field_plus, [], []⟩
abbrev s_field_times : Stmt := top 30
def N_field_times : List Str := ["one", "other", "root", "first"]
def d_field_times : He.DefD := ⟨("field_times", none), "field_times", "field_times", defArgs s_field_times, defBody s_field_times, defScope s_field_times, [], []⟩
abbrev s_is_nothing : Stmt := top 31
def N_is_nothing : List Str := ["number"]
def d_is_nothing : He.DefD := ⟨("is_nothing", none), "is_nothing", "is_nothing", defArgs s_is_nothing, defBody s_is_nothing, defScope s_is_nothing, [], []⟩
abbrev s_field_inverse : Stmt := top 32
def N_field_inverse : List Str := ["number", "root", "one", "two", "size"]
def d_field_inverse : He.DefD := ⟨("field_inverse", none), "field_inverse", "field_inverse", defArgs s_field_inverse, defBody s_field_inverse, defScope s_field_inverse, [], []⟩
abbrev s_number_sum : Stmt := top 33
def N_number_sum : List Str := ["one", "other"]
def d_number_sum : He.DefD := ⟨("number_sum", none), "number_sum", "number_sum", defArgs s_number_sum, defBody s_number_sum, defScope s_number_sum, [], []⟩
abbrev s_number_product : Stmt := top 34
def N_number_product : List Str := ["one", "other"]
def d_number_product : He.DefD := ⟨("number_product", none), "number_product", "number_product", defArgs s_number_product, defBody s_number_product, defScope s_number_product, [], []⟩
abbrev s_number_by : Stmt := top 35
def N_number_by : List Str := ["one", "other"]
def d_number_by : He.DefD := ⟨("number_by", none), "number_by", "number_by", defArgs s_number_by, defBody s_number_by, defScope s_number_by, [], []⟩
abbrev s_law_cup : Stmt := top 37
def N_law_cup : List Str := ["script", "cell"]
def d_law_cup : He.DefD := ⟨("_law_cup", none), "_law_cup", "_law_cup", defArgs s_law_cup, defBody s_law_cup, defScope s_law_cup, [], []⟩
abbrev s_law_roll : Stmt := top 38
def N_law_roll : List Str := ["cup", "many", "found"]
def d_law_roll : He.DefD := ⟨("_law_roll", none), "_law_roll", "_law_roll", defArgs s_law_roll, defBody s_law_roll, defScope s_law_roll, [], []⟩
abbrev s_law_some : Stmt := top 39
def N_law_some : List Str := ["cup", "things"]
def d_law_some : He.DefD := ⟨("_law_some", none), "_law_some", "_law_some", defArgs s_law_some, defBody s_law_some, defScope s_law_some, [], []⟩
abbrev s_law_sort : Stmt := top 40
def N_law_sort : List Str := ["value"]
def d_law_sort : He.DefD := ⟨("_law_sort", none), "_law_sort", "_law_sort", defArgs s_law_sort, defBody s_law_sort, defScope s_law_sort, [], []⟩
abbrev s_law_like : Stmt := top 41
def N_law_like : List Str := ["one", "other", "sort", "first", "second"]
def d_law_like : He.DefD := ⟨("_law_like", none), "_law_like", "_law_like", defArgs s_law_like, defBody s_law_like, defScope s_law_like, [], []⟩
abbrev s_law_lowest : Stmt := top 42
def N_law_lowest : List Str := ["top", "bottom", "one", "other", "step"]
def d_law_lowest : He.DefD := ⟨("_law_lowest", none), "_law_lowest", "_law_lowest", defArgs s_law_lowest, defBody s_law_lowest, defScope s_law_lowest, [], []⟩
abbrev s_law_plus : Stmt := top 43
def N_law_plus : List Str := ["one", "other"]
def d_law_plus : He.DefD := ⟨("_law_plus", none), "_law_plus", "_law_plus", defArgs s_law_plus, defBody s_law_plus, defScope s_law_plus, [], []⟩
abbrev s_law_times : Stmt := top 44
def N_law_times : List Str := ["one", "other"]
def d_law_times : He.DefD := ⟨("_law_times", none), "_law_times", "_law_times", defArgs s_law_times, defBody s_law_times, defScope s_law_times, [], []⟩
abbrev s_law_fraction : Stmt := top 45
def N_law_fraction : List Str := ["cup", "far", "top"]
def d_law_fraction : He.DefD := ⟨("_law_fraction", none), "_law_fraction", "_law_fraction", defArgs s_law_fraction, defBody s_law_fraction, defScope s_law_fraction, [], []⟩
abbrev s_law_field : Stmt := top 46
def N_law_field : List Str := ["cup", "root"]
def d_law_field : He.DefD := ⟨("_law_field", none), "_law_field", "_law_field", defArgs s_law_field, defBody s_law_field, defScope s_law_field, [], []⟩
abbrev s_law_field_times : Stmt := top 47
def N_law_field_times : List Str := ["one", "other", "root", "first"]
def d_law_field_times : He.DefD := ⟨("_law_field_times", none), "_law_field_times", "_law_field_times", defArgs s_law_field_times, defBody s_law_field_times, defScope s_law_field_times, [], []⟩
abbrev s_law_field_plus : Stmt := top 48
def N_law_field_plus : List Str := ["one", "other"]
def d_law_field_plus : He.DefD := ⟨("_law_field_plus", none), "_law_field_plus", "_law_field_plus", defArgs s_law_field_plus, defBody s_law_field_plus, defScope s_law_field_plus, [], []⟩
abbrev s_law_fractions_right : Stmt := top 50
def N_law_fractions_right : List Str := ["cup", "one", "other", "told", "back"]
def d_law_fractions_right : He.DefD := ⟨("_law_fractions_right", none), "_law_fractions_right", "_law_fractions_right", defArgs s_law_fractions_right, defBody s_law_fractions_right, defScope s_law_fractions_right, [], []⟩
abbrev s_law_fields_right : Stmt := top 51
def N_law_fields_right : List Str := ["cup", "root", "one", "other", "told", "back", "great"]
def d_law_fields_right : He.DefD := ⟨("_law_fields_right", none), "_law_fields_right", "_law_fields_right", defArgs s_law_fields_right, defBody s_law_fields_right, defScope s_law_fields_right, [], []⟩
abbrev s_law_limits_right : Stmt := top 52
def N_law_limits_right : List Str := ["cup", "golden", "two", "root", "told", "due", "odds", "bent", "odd", "words", "name"]
def d_law_limits_right : He.DefD := ⟨("_law_limits_right", none), "_law_limits_right", "_law_limits_right", defArgs s_law_limits_right, defBody s_law_limits_right, defScope s_law_limits_right, [], []⟩
abbrev s_law : Stmt := top 53
def N_law : List Str := ["script", "cup", "turn"]
def d_law : He.DefD := ⟨("law", none), "law", "law", defArgs s_law, defBody s_law, defScope s_law, [], []⟩
abbrev s_law_error : Stmt := top 49
def N_law_error : List Str := ["call", "e", "pairs", "word", "is_so"]
def d_law_error : He.DefD := ⟨("_law_error", none), "_law_error", "_law_error", defArgs s_law_error, defBody s_law_error, defScope s_law_error, [], []⟩
def fnl : List He.DefD := [d_is_tuple_of, d_is_fraction, d_need_fraction, d_lowest, d_plus, d_minus, d_times, d_over, d_fraction_sum, d_fraction_product, d_fraction_by, d_is_most, d_at_most, d_is_field_number, d_need_number, d_root_of_both, d_need_root, d_field_plus, d_field_times, d_is_nothing, d_field_inverse, d_number_sum, d_number_product, d_number_by, d_law_cup, d_law_roll, d_law_some, d_law_sort, d_law_like, d_law_lowest, d_law_plus, d_law_times, d_law_fraction, d_law_field, d_law_field_times, d_law_field_plus, d_law_fractions_right, d_law_fields_right, d_law_limits_right, d_law, d_law_error]
def tf : List (He.Defn × Str) := [(("_law_fractions_right", none), "_law_fractions_right"), (("_law_fields_right", none), "_law_fields_right"), (("_law_limits_right", none), "_law_limits_right")]
abbrev facts : List He.Fa := [.glo "_law_error"]
abbrev rest (K : PySem.W.Frag) : Bool := restB prg T "ArchError" tf K
theorem k_is_tuple_of : chkB T N_is_tuple_of f_is_tuple_of.body (defScope s_is_tuple_of) (defBody s_is_tuple_of) = true := by decide +kernel
theorem k_is_fraction : chkB T N_is_fraction f_is_fraction.body (defScope s_is_fraction) (defBody s_is_fraction) = true := by decide +kernel
theorem k_need_fraction : chkB T N_need_fraction f_need_fraction.body (defScope s_need_fraction) (defBody s_need_fraction) = true := by decide +kernel
theorem k_lowest : chkB T N_lowest f_lowest.body (defScope s_lowest) (defBody s_lowest) = true := by decide +kernel
theorem k_plus : chkB T N_plus f_plus.body (defScope s_plus) (defBody s_plus) = true := by decide +kernel
theorem k_minus : chkB T N_minus f_minus.body (defScope s_minus) (defBody s_minus) = true := by decide +kernel
theorem k_times : chkB T N_times f_times.body (defScope s_times) (defBody s_times) = true := by decide +kernel
theorem k_over : chkB T N_over f_over.body (defScope s_over) (defBody s_over) = true := by decide +kernel
theorem k_fraction_sum : chkB T N_fraction_sum f_fraction_sum.body (defScope s_fraction_sum) (defBody s_fraction_sum) = true := by decide +kernel
theorem k_fraction_product : chkB T N_fraction_product f_fraction_product.body (defScope s_fraction_product) (defBody s_fraction_product) = true := by decide +kernel
theorem k_fraction_by : chkB T N_fraction_by f_fraction_by.body (defScope s_fraction_by) (defBody s_fraction_by) = true := by decide +kernel
theorem k_is_most : chkB T N_is_most f_is_most.body (defScope s_is_most) (defBody s_is_most) = true := by decide +kernel
theorem k_at_most : chkB T N_at_most f_at_most.body (defScope s_at_most) (defBody s_at_most) = true := by decide +kernel
theorem k_is_field_number : chkB T N_is_field_number f_is_field_number.body (defScope s_is_field_number) (defBody s_is_field_number) = true := by decide +kernel
theorem k_need_number : chkB T N_need_number f_need_number.body (defScope s_need_number) (defBody s_need_number) = true := by decide +kernel
theorem k_root_of_both : chkB T N_root_of_both f_root_of_both.body (defScope s_root_of_both) (defBody s_root_of_both) = true := by decide +kernel
theorem k_need_root : chkB T N_need_root f_need_root.body (defScope s_need_root) (defBody s_need_root) = true := by decide +kernel
theorem k_field_plus : chkB T N_field_plus f_field_plus.body (defScope s_field_plus) (defBody s_field_plus) = true := by decide +kernel
theorem k_field_times : chkB T N_field_times f_field_times.body (defScope s_field_times) (defBody s_field_times) = true := by decide +kernel
theorem k_is_nothing : chkB T N_is_nothing f_is_nothing.body (defScope s_is_nothing) (defBody s_is_nothing) = true := by decide +kernel
theorem k_field_inverse : chkB T N_field_inverse f_field_inverse.body (defScope s_field_inverse) (defBody s_field_inverse) = true := by decide +kernel
theorem k_number_sum : chkB T N_number_sum f_number_sum.body (defScope s_number_sum) (defBody s_number_sum) = true := by decide +kernel
theorem k_number_product : chkB T N_number_product f_number_product.body (defScope s_number_product) (defBody s_number_product) = true := by decide +kernel
theorem k_number_by : chkB T N_number_by f_number_by.body (defScope s_number_by) (defBody s_number_by) = true := by decide +kernel
theorem k_law_cup : chkB T N_law_cup f_law_cup.body (defScope s_law_cup) (defBody s_law_cup) = true := by decide +kernel
theorem k_law_roll : chkB T N_law_roll f_law_roll.body (defScope s_law_roll) (defBody s_law_roll) = true := by decide +kernel
theorem k_law_some : chkB T N_law_some f_law_some.body (defScope s_law_some) (defBody s_law_some) = true := by decide +kernel
theorem k_law_sort : chkB T N_law_sort f_law_sort.body (defScope s_law_sort) (defBody s_law_sort) = true := by decide +kernel
theorem k_law_like : chkB T N_law_like f_law_like.body (defScope s_law_like) (defBody s_law_like) = true := by decide +kernel
theorem k_law_lowest : chkB T N_law_lowest f_law_lowest.body (defScope s_law_lowest) (defBody s_law_lowest) = true := by decide +kernel
theorem k_law_plus : chkB T N_law_plus f_law_plus.body (defScope s_law_plus) (defBody s_law_plus) = true := by decide +kernel
theorem k_law_times : chkB T N_law_times f_law_times.body (defScope s_law_times) (defBody s_law_times) = true := by decide +kernel
theorem k_law_fraction : chkB T N_law_fraction f_law_fraction.body (defScope s_law_fraction) (defBody s_law_fraction) = true := by decide +kernel
theorem k_law_field : chkB T N_law_field f_law_field.body (defScope s_law_field) (defBody s_law_field) = true := by decide +kernel
theorem k_law_field_times : chkB T N_law_field_times f_law_field_times.body (defScope s_law_field_times) (defBody s_law_field_times) = true := by decide +kernel
theorem k_law_field_plus : chkB T N_law_field_plus f_law_field_plus.body (defScope s_law_field_plus) (defBody s_law_field_plus) = true := by decide +kernel
theorem k_law_fractions_right : chkB { T with lsc := some (defScope s_law_fractions_right).names } N_law_fractions_right f_law_fractions_right.body (defScope s_law_fractions_right) (defBody s_law_fractions_right) = true := by decide +kernel
theorem k_law_fields_right : chkB { T with lsc := some (defScope s_law_fields_right).names } N_law_fields_right f_law_fields_right.body (defScope s_law_fields_right) (defBody s_law_fields_right) = true := by decide +kernel
theorem k_law_limits_right : chkB { T with lsc := some (defScope s_law_limits_right).names } N_law_limits_right f_law_limits_right.body (defScope s_law_limits_right) (defBody s_law_limits_right) = true := by decide +kernel
theorem k_law : chkB T N_law f_law.body (defScope s_law) (defBody s_law) = true := by decide +kernel
theorem k_law_error : telB T t_law_error N_law_error (defScope s_law_error) "call" "ArchError" "e" (defBody s_law_error) = true := by decide +kernel
section
variable {K : PySem.W.Frag}
abbrev FAk (K : PySem.W.Frag) : FA := ⟨faOf K T, tabsOf K tf, clsF K T⟩
theorem o_is_tuple_of (c : He.SaysD facts fnl K) (hl : lamsB K tf = true) : ∃ fn x qual params body scope fd N ps lsc, DefOk prg T K (FAk K) (csOf K tf) 0 (He.ga K "is_tuple_of") fn x qual params body scope fd N ps lsc := by
  obtain ⟨fd, F⟩ := c.def_ 0 (d := d_is_tuple_of) rfl
  exact ⟨f_is_tuple_of, _, _, _, _, _, fd, N_is_tuple_of, ["value", "low", "high"], none, rfl, F, F.bindsN fun _ _ _ _ _ _ us hl => match us, hl with | [_, _, _], _ => rfl, C8.fnScope_by (by decide +kernel), rfl, rfl, k_is_tuple_of, no_lam⟩
theorem o_is_fraction (c : He.SaysD facts fnl K) (hl : lamsB K tf = true) : ∃ fn x qual params body scope fd N ps lsc, DefOk prg T K (FAk K) (csOf K tf) 1 (He.ga K "is_fraction") fn x qual params body scope fd N ps lsc := by
  obtain ⟨fd, F⟩ := c.def_ 1 (d := d_is_fraction) rfl
  exact ⟨f_is_fraction, _, _, _, _, _, fd, N_is_fraction, ["value"], none, rfl, F, F.bindsN fun _ _ _ _ _ _ us hl => match us, hl with | [_], _ => rfl, C8.fnScope_by (by decide +kernel), rfl, rfl, k_is_fraction, no_lam⟩
theorem o_need_fraction (c : He.SaysD facts fnl K) (hl : lamsB K tf = true) : ∃ fn x qual params body scope fd N ps lsc, DefOk prg T K (FAk K) (csOf K tf) 2 (He.ga K "need_fraction") fn x qual params body scope fd N ps lsc := by
  obtain ⟨fd, F⟩ := c.def_ 2 (d := d_need_fraction) rfl
  exact ⟨f_need_fraction, _, _, _, _, _, fd, N_need_fraction, ["value"], none, rfl, F, F.bindsN fun _ _ _ _ _ _ us hl => match us, hl with | [_], _ => rfl, C8.fnScope_by (by decide +kernel), rfl, rfl, k_need_fraction, no_lam⟩
theorem o_lowest (c : He.SaysD facts fnl K) (hl : lamsB K tf = true) : ∃ fn x qual params body scope fd N ps lsc, DefOk prg T K (FAk K) (csOf K tf) 3 (He.ga K "lowest") fn x qual params body scope fd N ps lsc := by
  obtain ⟨fd, F⟩ := c.def_ 3 (d := d_lowest) rfl
  exact ⟨f_lowest, _, _, _, _, _, fd, N_lowest, ["top", "bottom"], none, rfl, F, F.bindsN fun _ _ _ _ _ _ us hl => match us, hl with | [_, _], _ => rfl, C8.fnScope_by (by decide +kernel), rfl, rfl, k_lowest, no_lam⟩
theorem o_plus (c : He.SaysD facts fnl K) (hl : lamsB K tf = true) : ∃ fn x qual params body scope fd N ps lsc, DefOk prg T K (FAk K) (csOf K tf) 4 (He.ga K "plus") fn x qual params body scope fd N ps lsc := by
  obtain ⟨fd, F⟩ := c.def_ 4 (d := d_plus) rfl
  exact ⟨f_plus, _, _, _, _, _, fd, N_plus, ["one", "other"], none, rfl, F, F.bindsN fun _ _ _ _ _ _ us hl => match us, hl with | [_, _], _ => rfl, C8.fnScope_by (by decide +kernel), rfl, rfl, k_plus, no_lam⟩
theorem o_minus (c : He.SaysD facts fnl K) (hl : lamsB K tf = true) : ∃ fn x qual params body scope fd N ps lsc, DefOk prg T K (FAk K) (csOf K tf) 5 (He.ga K "minus") fn x qual params body scope fd N ps lsc := by
  obtain ⟨fd, F⟩ := c.def_ 5 (d := d_minus) rfl
  exact ⟨f_minus, _, _, _, _, _, fd, N_minus, ["one", "other"], none, rfl, F, F.bindsN fun _ _ _ _ _ _ us hl => match us, hl with | [_, _], _ => rfl, C8.fnScope_by (by decide +kernel), rfl, rfl, k_minus, no_lam⟩
theorem o_times (c : He.SaysD facts fnl K) (hl : lamsB K tf = true) : ∃ fn x qual params body scope fd N ps lsc, DefOk prg T K (FAk K) (csOf K tf) 6 (He.ga K "times") fn x qual params body scope fd N ps lsc := by
  obtain ⟨fd, F⟩ := c.def_ 6 (d := d_times) rfl
  exact ⟨f_times, _, _, _, _, _, fd, N_times, ["one", "other"], none, rfl, F, F.bindsN fun _ _ _ _ _ _ us hl => match us, hl with | [_, _], _ => rfl, C8.fnScope_by (by decide +kernel), rfl, rfl, k_times, no_lam⟩
theorem o_over (c : He.SaysD facts fnl K) (hl : lamsB K tf = true) : ∃ fn x qual params body scope fd N ps lsc, DefOk prg T K (FAk K) (csOf K tf) 7 (He.ga K "over") fn x qual params body scope fd N ps lsc := by
  obtain ⟨fd, F⟩ := c.def_ 7 (d := d_over) rfl
  exact ⟨f_over, _, _, _, _, _, fd, N_over, ["one", "other"], none, rfl, F, F.bindsN fun _ _ _ _ _ _ us hl => match us, hl with | [_, _], _ => rfl, C8.fnScope_by (by decide +kernel), rfl, rfl, k_over, no_lam⟩
theorem o_fraction_sum (c : He.SaysD facts fnl K) (hl : lamsB K tf = true) : ∃ fn x qual params body scope fd N ps lsc, DefOk prg T K (FAk K) (csOf K tf) 8 (He.ga K "fraction_sum") fn x qual params body scope fd N ps lsc := by
  obtain ⟨fd, F⟩ := c.def_ 8 (d := d_fraction_sum) rfl
  exact ⟨f_fraction_sum, _, _, _, _, _, fd, N_fraction_sum, ["one", "other"], none, rfl, F, F.bindsN fun _ _ _ _ _ _ us hl => match us, hl with | [_, _], _ => rfl, C8.fnScope_by (by decide +kernel), rfl, rfl, k_fraction_sum, no_lam⟩
theorem o_fraction_product (c : He.SaysD facts fnl K) (hl : lamsB K tf = true) : ∃ fn x qual params body scope fd N ps lsc, DefOk prg T K (FAk K) (csOf K tf) 9 (He.ga K "fraction_product") fn x qual params body scope fd N ps lsc := by
  obtain ⟨fd, F⟩ := c.def_ 9 (d := d_fraction_product) rfl
  exact ⟨f_fraction_product, _, _, _, _, _, fd, N_fraction_product, ["one", "other"], none, rfl, F, F.bindsN fun _ _ _ _ _ _ us hl => match us, hl with | [_, _], _ => rfl, C8.fnScope_by (by decide +kernel), rfl, rfl, k_fraction_product, no_lam⟩
theorem o_fraction_by (c : He.SaysD facts fnl K) (hl : lamsB K tf = true) : ∃ fn x qual params body scope fd N ps lsc, DefOk prg T K (FAk K) (csOf K tf) 10 (He.ga K "fraction_by") fn x qual params body scope fd N ps lsc := by
  obtain ⟨fd, F⟩ := c.def_ 10 (d := d_fraction_by) rfl
  exact ⟨f_fraction_by, _, _, _, _, _, fd, N_fraction_by, ["one", "other"], none, rfl, F, F.bindsN fun _ _ _ _ _ _ us hl => match us, hl with | [_, _], _ => rfl, C8.fnScope_by (by decide +kernel), rfl, rfl, k_fraction_by, no_lam⟩
theorem o_is_most (c : He.SaysD facts fnl K) (hl : lamsB K tf = true) : ∃ fn x qual params body scope fd N ps lsc, DefOk prg T K (FAk K) (csOf K tf) 11 (He.ga K "is_most") fn x qual params body scope fd N ps lsc := by
  obtain ⟨fd, F⟩ := c.def_ 11 (d := d_is_most) rfl
  exact ⟨f_is_most, _, _, _, _, _, fd, N_is_most, ["one", "other"], none, rfl, F, F.bindsN fun _ _ _ _ _ _ us hl => match us, hl with | [_, _], _ => rfl, C8.fnScope_by (by decide +kernel), rfl, rfl, k_is_most, no_lam⟩
theorem o_at_most (c : He.SaysD facts fnl K) (hl : lamsB K tf = true) : ∃ fn x qual params body scope fd N ps lsc, DefOk prg T K (FAk K) (csOf K tf) 12 (He.ga K "at_most") fn x qual params body scope fd N ps lsc := by
  obtain ⟨fd, F⟩ := c.def_ 12 (d := d_at_most) rfl
  exact ⟨f_at_most, _, _, _, _, _, fd, N_at_most, ["one", "other"], none, rfl, F, F.bindsN fun _ _ _ _ _ _ us hl => match us, hl with | [_, _], _ => rfl, C8.fnScope_by (by decide +kernel), rfl, rfl, k_at_most, no_lam⟩
theorem o_is_field_number (c : He.SaysD facts fnl K) (hl : lamsB K tf = true) : ∃ fn x qual params body scope fd N ps lsc, DefOk prg T K (FAk K) (csOf K tf) 13 (He.ga K "is_field_number") fn x qual params body scope fd N ps lsc := by
  obtain ⟨fd, F⟩ := c.def_ 13 (d := d_is_field_number) rfl
  exact ⟨f_is_field_number, _, _, _, _, _, fd, N_is_field_number, ["value"], none, rfl, F, F.bindsN fun _ _ _ _ _ _ us hl => match us, hl with | [_], _ => rfl, C8.fnScope_by (by decide +kernel), rfl, rfl, k_is_field_number, no_lam⟩
theorem o_need_number (c : He.SaysD facts fnl K) (hl : lamsB K tf = true) : ∃ fn x qual params body scope fd N ps lsc, DefOk prg T K (FAk K) (csOf K tf) 14 (He.ga K "need_number") fn x qual params body scope fd N ps lsc := by
  obtain ⟨fd, F⟩ := c.def_ 14 (d := d_need_number) rfl
  exact ⟨f_need_number, _, _, _, _, _, fd, N_need_number, ["value"], none, rfl, F, F.bindsN fun _ _ _ _ _ _ us hl => match us, hl with | [_], _ => rfl, C8.fnScope_by (by decide +kernel), rfl, rfl, k_need_number, no_lam⟩
theorem o_root_of_both (c : He.SaysD facts fnl K) (hl : lamsB K tf = true) : ∃ fn x qual params body scope fd N ps lsc, DefOk prg T K (FAk K) (csOf K tf) 15 (He.ga K "root_of_both") fn x qual params body scope fd N ps lsc := by
  obtain ⟨fd, F⟩ := c.def_ 15 (d := d_root_of_both) rfl
  exact ⟨f_root_of_both, _, _, _, _, _, fd, N_root_of_both, ["one", "other"], none, rfl, F, F.bindsN fun _ _ _ _ _ _ us hl => match us, hl with | [_, _], _ => rfl, C8.fnScope_by (by decide +kernel), rfl, rfl, k_root_of_both, no_lam⟩
theorem o_need_root (c : He.SaysD facts fnl K) (hl : lamsB K tf = true) : ∃ fn x qual params body scope fd N ps lsc, DefOk prg T K (FAk K) (csOf K tf) 16 (He.ga K "need_root") fn x qual params body scope fd N ps lsc := by
  obtain ⟨fd, F⟩ := c.def_ 16 (d := d_need_root) rfl
  exact ⟨f_need_root, _, _, _, _, _, fd, N_need_root, ["one", "other"], none, rfl, F, F.bindsN fun _ _ _ _ _ _ us hl => match us, hl with | [_, _], _ => rfl, C8.fnScope_by (by decide +kernel), rfl, rfl, k_need_root, no_lam⟩
theorem o_field_plus (c : He.SaysD facts fnl K) (hl : lamsB K tf = true) : ∃ fn x qual params body scope fd N ps lsc, DefOk prg T K (FAk K) (csOf K tf) 17 (He.ga K "field_plus") fn x qual params body scope fd N ps lsc := by
  obtain ⟨fd, F⟩ := c.def_ 17 (d := d_field_plus) rfl
  exact ⟨f_field_plus, _, _, _, _, _, fd, N_field_plus, ["one", "other"], none, rfl, F, F.bindsN fun _ _ _ _ _ _ us hl => match us, hl with | [_, _], _ => rfl, C8.fnScope_by (by decide +kernel), rfl, rfl, k_field_plus, no_lam⟩
theorem o_field_times (c : He.SaysD facts fnl K) (hl : lamsB K tf = true) : ∃ fn x qual params body scope fd N ps lsc, DefOk prg T K (FAk K) (csOf K tf) 18 (He.ga K "field_times") fn x qual params body scope fd N ps lsc := by
  obtain ⟨fd, F⟩ := c.def_ 18 (d := d_field_times) rfl
  exact ⟨f_field_times, _, _, _, _, _, fd, N_field_times, ["one", "other"], none, rfl, F, F.bindsN fun _ _ _ _ _ _ us hl => match us, hl with | [_, _], _ => rfl, C8.fnScope_by (by decide +kernel), rfl, rfl, k_field_times, no_lam⟩
theorem o_is_nothing (c : He.SaysD facts fnl K) (hl : lamsB K tf = true) : ∃ fn x qual params body scope fd N ps lsc, DefOk prg T K (FAk K) (csOf K tf) 19 (He.ga K "is_nothing") fn x qual params body scope fd N ps lsc := by
  obtain ⟨fd, F⟩ := c.def_ 19 (d := d_is_nothing) rfl
  exact ⟨f_is_nothing, _, _, _, _, _, fd, N_is_nothing, ["number"], none, rfl, F, F.bindsN fun _ _ _ _ _ _ us hl => match us, hl with | [_], _ => rfl, C8.fnScope_by (by decide +kernel), rfl, rfl, k_is_nothing, no_lam⟩
theorem o_field_inverse (c : He.SaysD facts fnl K) (hl : lamsB K tf = true) : ∃ fn x qual params body scope fd N ps lsc, DefOk prg T K (FAk K) (csOf K tf) 20 (He.ga K "field_inverse") fn x qual params body scope fd N ps lsc := by
  obtain ⟨fd, F⟩ := c.def_ 20 (d := d_field_inverse) rfl
  exact ⟨f_field_inverse, _, _, _, _, _, fd, N_field_inverse, ["number"], none, rfl, F, F.bindsN fun _ _ _ _ _ _ us hl => match us, hl with | [_], _ => rfl, C8.fnScope_by (by decide +kernel), rfl, rfl, k_field_inverse, no_lam⟩
theorem o_number_sum (c : He.SaysD facts fnl K) (hl : lamsB K tf = true) : ∃ fn x qual params body scope fd N ps lsc, DefOk prg T K (FAk K) (csOf K tf) 21 (He.ga K "number_sum") fn x qual params body scope fd N ps lsc := by
  obtain ⟨fd, F⟩ := c.def_ 21 (d := d_number_sum) rfl
  exact ⟨f_number_sum, _, _, _, _, _, fd, N_number_sum, ["one", "other"], none, rfl, F, F.bindsN fun _ _ _ _ _ _ us hl => match us, hl with | [_, _], _ => rfl, C8.fnScope_by (by decide +kernel), rfl, rfl, k_number_sum, no_lam⟩
theorem o_number_product (c : He.SaysD facts fnl K) (hl : lamsB K tf = true) : ∃ fn x qual params body scope fd N ps lsc, DefOk prg T K (FAk K) (csOf K tf) 22 (He.ga K "number_product") fn x qual params body scope fd N ps lsc := by
  obtain ⟨fd, F⟩ := c.def_ 22 (d := d_number_product) rfl
  exact ⟨f_number_product, _, _, _, _, _, fd, N_number_product, ["one", "other"], none, rfl, F, F.bindsN fun _ _ _ _ _ _ us hl => match us, hl with | [_, _], _ => rfl, C8.fnScope_by (by decide +kernel), rfl, rfl, k_number_product, no_lam⟩
theorem o_number_by (c : He.SaysD facts fnl K) (hl : lamsB K tf = true) : ∃ fn x qual params body scope fd N ps lsc, DefOk prg T K (FAk K) (csOf K tf) 23 (He.ga K "number_by") fn x qual params body scope fd N ps lsc := by
  obtain ⟨fd, F⟩ := c.def_ 23 (d := d_number_by) rfl
  exact ⟨f_number_by, _, _, _, _, _, fd, N_number_by, ["one", "other"], none, rfl, F, F.bindsN fun _ _ _ _ _ _ us hl => match us, hl with | [_, _], _ => rfl, C8.fnScope_by (by decide +kernel), rfl, rfl, k_number_by, no_lam⟩
theorem o_law_cup (c : He.SaysD facts fnl K) (hl : lamsB K tf = true) : ∃ fn x qual params body scope fd N ps lsc, DefOk prg T K (FAk K) (csOf K tf) 24 (He.ga K "_law_cup") fn x qual params body scope fd N ps lsc := by
  obtain ⟨fd, F⟩ := c.def_ 24 (d := d_law_cup) rfl
  exact ⟨f_law_cup, _, _, _, _, _, fd, N_law_cup, ["script"], none, rfl, F, F.bindsN fun _ _ _ _ _ _ us hl => match us, hl with | [_], _ => rfl, C8.fnScope_by (by decide +kernel), rfl, rfl, k_law_cup, no_lam⟩
theorem o_law_roll (c : He.SaysD facts fnl K) (hl : lamsB K tf = true) : ∃ fn x qual params body scope fd N ps lsc, DefOk prg T K (FAk K) (csOf K tf) 25 (He.ga K "_law_roll") fn x qual params body scope fd N ps lsc := by
  obtain ⟨fd, F⟩ := c.def_ 25 (d := d_law_roll) rfl
  exact ⟨f_law_roll, _, _, _, _, _, fd, N_law_roll, ["cup", "many"], none, rfl, F, F.bindsN fun _ _ _ _ _ _ us hl => match us, hl with | [_, _], _ => rfl, C8.fnScope_by (by decide +kernel), rfl, rfl, k_law_roll, no_lam⟩
theorem o_law_some (c : He.SaysD facts fnl K) (hl : lamsB K tf = true) : ∃ fn x qual params body scope fd N ps lsc, DefOk prg T K (FAk K) (csOf K tf) 26 (He.ga K "_law_some") fn x qual params body scope fd N ps lsc := by
  obtain ⟨fd, F⟩ := c.def_ 26 (d := d_law_some) rfl
  exact ⟨f_law_some, _, _, _, _, _, fd, N_law_some, ["cup", "things"], none, rfl, F, F.bindsN fun _ _ _ _ _ _ us hl => match us, hl with | [_, _], _ => rfl, C8.fnScope_by (by decide +kernel), rfl, rfl, k_law_some, no_lam⟩
theorem o_law_sort (c : He.SaysD facts fnl K) (hl : lamsB K tf = true) : ∃ fn x qual params body scope fd N ps lsc, DefOk prg T K (FAk K) (csOf K tf) 27 (He.ga K "_law_sort") fn x qual params body scope fd N ps lsc := by
  obtain ⟨fd, F⟩ := c.def_ 27 (d := d_law_sort) rfl
  exact ⟨f_law_sort, _, _, _, _, _, fd, N_law_sort, ["value"], none, rfl, F, F.bindsN fun _ _ _ _ _ _ us hl => match us, hl with | [_], _ => rfl, C8.fnScope_by (by decide +kernel), rfl, rfl, k_law_sort, no_lam⟩
theorem o_law_like (c : He.SaysD facts fnl K) (hl : lamsB K tf = true) : ∃ fn x qual params body scope fd N ps lsc, DefOk prg T K (FAk K) (csOf K tf) 28 (He.ga K "_law_like") fn x qual params body scope fd N ps lsc := by
  obtain ⟨fd, F⟩ := c.def_ 28 (d := d_law_like) rfl
  exact ⟨f_law_like, _, _, _, _, _, fd, N_law_like, ["one", "other"], none, rfl, F, F.bindsN fun _ _ _ _ _ _ us hl => match us, hl with | [_, _], _ => rfl, C8.fnScope_by (by decide +kernel), rfl, rfl, k_law_like, no_lam⟩
theorem o_law_lowest (c : He.SaysD facts fnl K) (hl : lamsB K tf = true) : ∃ fn x qual params body scope fd N ps lsc, DefOk prg T K (FAk K) (csOf K tf) 29 (He.ga K "_law_lowest") fn x qual params body scope fd N ps lsc := by
  obtain ⟨fd, F⟩ := c.def_ 29 (d := d_law_lowest) rfl
  exact ⟨f_law_lowest, _, _, _, _, _, fd, N_law_lowest, ["top", "bottom"], none, rfl, F, F.bindsN fun _ _ _ _ _ _ us hl => match us, hl with | [_, _], _ => rfl, C8.fnScope_by (by decide +kernel), rfl, rfl, k_law_lowest, no_lam⟩
theorem o_law_plus (c : He.SaysD facts fnl K) (hl : lamsB K tf = true) : ∃ fn x qual params body scope fd N ps lsc, DefOk prg T K (FAk K) (csOf K tf) 30 (He.ga K "_law_plus") fn x qual params body scope fd N ps lsc := by
  obtain ⟨fd, F⟩ := c.def_ 30 (d := d_law_plus) rfl
  exact ⟨f_law_plus, _, _, _, _, _, fd, N_law_plus, ["one", "other"], none, rfl, F, F.bindsN fun _ _ _ _ _ _ us hl => match us, hl with | [_, _], _ => rfl, C8.fnScope_by (by decide +kernel), rfl, rfl, k_law_plus, no_lam⟩
theorem o_law_times (c : He.SaysD facts fnl K) (hl : lamsB K tf = true) : ∃ fn x qual params body scope fd N ps lsc, DefOk prg T K (FAk K) (csOf K tf) 31 (He.ga K "_law_times") fn x qual params body scope fd N ps lsc := by
  obtain ⟨fd, F⟩ := c.def_ 31 (d := d_law_times) rfl
  exact ⟨f_law_times, _, _, _, _, _, fd, N_law_times, ["one", "other"], none, rfl, F, F.bindsN fun _ _ _ _ _ _ us hl => match us, hl with | [_, _], _ => rfl, C8.fnScope_by (by decide +kernel), rfl, rfl, k_law_times, no_lam⟩
theorem o_law_fraction (c : He.SaysD facts fnl K) (hl : lamsB K tf = true) : ∃ fn x qual params body scope fd N ps lsc, DefOk prg T K (FAk K) (csOf K tf) 32 (He.ga K "_law_fraction") fn x qual params body scope fd N ps lsc := by
  obtain ⟨fd, F⟩ := c.def_ 32 (d := d_law_fraction) rfl
  exact ⟨f_law_fraction, _, _, _, _, _, fd, N_law_fraction, ["cup"], none, rfl, F, F.bindsN fun _ _ _ _ _ _ us hl => match us, hl with | [_], _ => rfl, C8.fnScope_by (by decide +kernel), rfl, rfl, k_law_fraction, no_lam⟩
theorem o_law_field (c : He.SaysD facts fnl K) (hl : lamsB K tf = true) : ∃ fn x qual params body scope fd N ps lsc, DefOk prg T K (FAk K) (csOf K tf) 33 (He.ga K "_law_field") fn x qual params body scope fd N ps lsc := by
  obtain ⟨fd, F⟩ := c.def_ 33 (d := d_law_field) rfl
  exact ⟨f_law_field, _, _, _, _, _, fd, N_law_field, ["cup", "root"], none, rfl, F, F.bindsN fun _ _ _ _ _ _ us hl => match us, hl with | [_, _], _ => rfl, C8.fnScope_by (by decide +kernel), rfl, rfl, k_law_field, no_lam⟩
theorem o_law_field_times (c : He.SaysD facts fnl K) (hl : lamsB K tf = true) : ∃ fn x qual params body scope fd N ps lsc, DefOk prg T K (FAk K) (csOf K tf) 34 (He.ga K "_law_field_times") fn x qual params body scope fd N ps lsc := by
  obtain ⟨fd, F⟩ := c.def_ 34 (d := d_law_field_times) rfl
  exact ⟨f_law_field_times, _, _, _, _, _, fd, N_law_field_times, ["one", "other"], none, rfl, F, F.bindsN fun _ _ _ _ _ _ us hl => match us, hl with | [_, _], _ => rfl, C8.fnScope_by (by decide +kernel), rfl, rfl, k_law_field_times, no_lam⟩
theorem o_law_field_plus (c : He.SaysD facts fnl K) (hl : lamsB K tf = true) : ∃ fn x qual params body scope fd N ps lsc, DefOk prg T K (FAk K) (csOf K tf) 35 (He.ga K "_law_field_plus") fn x qual params body scope fd N ps lsc := by
  obtain ⟨fd, F⟩ := c.def_ 35 (d := d_law_field_plus) rfl
  exact ⟨f_law_field_plus, _, _, _, _, _, fd, N_law_field_plus, ["one", "other"], none, rfl, F, F.bindsN fun _ _ _ _ _ _ us hl => match us, hl with | [_, _], _ => rfl, C8.fnScope_by (by decide +kernel), rfl, rfl, k_law_field_plus, no_lam⟩
theorem o_law_fractions_right (c : He.SaysD facts fnl K) (hl : lamsB K tf = true) : ∃ fn x qual params body scope fd N ps lsc, DefOk prg T K (FAk K) (csOf K tf) 36 (He.ga K "_law_fractions_right") fn x qual params body scope fd N ps lsc := by
  obtain ⟨fd, F⟩ := c.def_ 36 (d := d_law_fractions_right) rfl
  exact ⟨f_law_fractions_right, _, _, _, _, _, fd, N_law_fractions_right, ["cup"], some (defScope s_law_fractions_right).names, rfl, F, F.bindsN fun _ _ _ _ _ _ us hl => match us, hl with | [_], _ => rfl, C8.fnScope_by (by decide +kernel), rfl, rfl, k_law_fractions_right, lam_def hl F (by decide +kernel)⟩
theorem o_law_fields_right (c : He.SaysD facts fnl K) (hl : lamsB K tf = true) : ∃ fn x qual params body scope fd N ps lsc, DefOk prg T K (FAk K) (csOf K tf) 37 (He.ga K "_law_fields_right") fn x qual params body scope fd N ps lsc := by
  obtain ⟨fd, F⟩ := c.def_ 37 (d := d_law_fields_right) rfl
  exact ⟨f_law_fields_right, _, _, _, _, _, fd, N_law_fields_right, ["cup"], some (defScope s_law_fields_right).names, rfl, F, F.bindsN fun _ _ _ _ _ _ us hl => match us, hl with | [_], _ => rfl, C8.fnScope_by (by decide +kernel), rfl, rfl, k_law_fields_right, lam_def hl F (by decide +kernel)⟩
theorem o_law_limits_right (c : He.SaysD facts fnl K) (hl : lamsB K tf = true) : ∃ fn x qual params body scope fd N ps lsc, DefOk prg T K (FAk K) (csOf K tf) 38 (He.ga K "_law_limits_right") fn x qual params body scope fd N ps lsc := by
  obtain ⟨fd, F⟩ := c.def_ 38 (d := d_law_limits_right) rfl
  exact ⟨f_law_limits_right, _, _, _, _, _, fd, N_law_limits_right, ["cup"], some (defScope s_law_limits_right).names, rfl, F, F.bindsN fun _ _ _ _ _ _ us hl => match us, hl with | [_], _ => rfl, C8.fnScope_by (by decide +kernel), rfl, rfl, k_law_limits_right, lam_def hl F (by decide +kernel)⟩
theorem o_law (c : He.SaysD facts fnl K) (hl : lamsB K tf = true) : ∃ fn x qual params body scope fd N ps lsc, DefOk prg T K (FAk K) (csOf K tf) 39 (He.ga K "law") fn x qual params body scope fd N ps lsc := by
  obtain ⟨fd, F⟩ := c.def_ 39 (d := d_law) rfl
  exact ⟨f_law, _, _, _, _, _, fd, N_law, ["script"], none, rfl, F, F.bindsN fun _ _ _ _ _ _ us hl => match us, hl with | [_], _ => rfl, C8.fnScope_by (by decide +kernel), rfl, rfl, k_law, no_lam⟩
end
theorem prg_ok {K : PySem.W.Frag} {h : Heap} {mg : Str → Option Value} (X : K.In h) (G : h.Ns mainGlobals mg) (c : He.SaysD facts fnl K) (r : rest K = true) (hg : mg "gcd" = some (.builtin "math.gcd")) : PrgOk prg T K mg (FAk K) (csOf K tf) := by
  have hl : lamsB K tf = true := by
    have r2 := r
    unfold rest restB at r2
    simp only [Bool.and_eq_true] at r2
    exact r2.2.2.2.2
  have M := mod_ok (P := prg) (T := T) (ca := "ArchError") (tf := tf) X G r (fun _ => hg) (by decide)
  refine { toModOk := M, cool := rfl, defs := fun i f hf => ?_, tels := fun i x hx => ?_ }
  · match i, hf with
    | 0, hf => cases hf; exact o_is_tuple_of c hl
    | 1, hf => cases hf; exact o_is_fraction c hl
    | 2, hf => cases hf; exact o_need_fraction c hl
    | 3, hf => cases hf; exact o_lowest c hl
    | 4, hf => cases hf; exact o_plus c hl
    | 5, hf => cases hf; exact o_minus c hl
    | 6, hf => cases hf; exact o_times c hl
    | 7, hf => cases hf; exact o_over c hl
    | 8, hf => cases hf; exact o_fraction_sum c hl
    | 9, hf => cases hf; exact o_fraction_product c hl
    | 10, hf => cases hf; exact o_fraction_by c hl
    | 11, hf => cases hf; exact o_is_most c hl
    | 12, hf => cases hf; exact o_at_most c hl
    | 13, hf => cases hf; exact o_is_field_number c hl
    | 14, hf => cases hf; exact o_need_number c hl
    | 15, hf => cases hf; exact o_root_of_both c hl
    | 16, hf => cases hf; exact o_need_root c hl
    | 17, hf => cases hf; exact o_field_plus c hl
    | 18, hf => cases hf; exact o_field_times c hl
    | 19, hf => cases hf; exact o_is_nothing c hl
    | 20, hf => cases hf; exact o_field_inverse c hl
    | 21, hf => cases hf; exact o_number_sum c hl
    | 22, hf => cases hf; exact o_number_product c hl
    | 23, hf => cases hf; exact o_number_by c hl
    | 24, hf => cases hf; exact o_law_cup c hl
    | 25, hf => cases hf; exact o_law_roll c hl
    | 26, hf => cases hf; exact o_law_some c hl
    | 27, hf => cases hf; exact o_law_sort c hl
    | 28, hf => cases hf; exact o_law_like c hl
    | 29, hf => cases hf; exact o_law_lowest c hl
    | 30, hf => cases hf; exact o_law_plus c hl
    | 31, hf => cases hf; exact o_law_times c hl
    | 32, hf => cases hf; exact o_law_fraction c hl
    | 33, hf => cases hf; exact o_law_field c hl
    | 34, hf => cases hf; exact o_law_field_times c hl
    | 35, hf => cases hf; exact o_law_field_plus c hl
    | 36, hf => cases hf; exact o_law_fractions_right c hl
    | 37, hf => cases hf; exact o_law_fields_right c hl
    | 38, hf => cases hf; exact o_law_limits_right c hl
    | 39, hf => cases hf; exact o_law c hl
    | i + 40, hf => simp [faOf, T] at hf
  · match i, hx with
    | 0, hx =>
      cases hx
      obtain ⟨fd, F⟩ := c.def_ 40 (d := d_law_error) rfl
      obtain ⟨CA, m1, m2, _⟩ := M.exc 0 "ArchError" rfl
      cases m1
      exact ⟨_, _, _, _, fd, N_law_error, _, t_law_error, _, _, _, tel_d (T := T) (P := prg) (t := t_law_error) (a := "call") (e := "ArchError") (n := "e") rfl (He.glo_ok X G (c.fact 0 (f := .glo "_law_error") rfl)) F (F.bindsN fun _ _ _ _ _ _ us hl => match us, hl with | [_], _ => rfl) (C8.fnScope_by (by decide +kernel)) (by decide +kernel) k_law_error m2 (exm_ok r)⟩
    | i + 1, hx => simp [T] at hx
end K00
end
section
set_option Elab.async false
set_option autoImplicit false
set_option linter.all false
set_option maxRecDepth 100000
set_option maxHeartbeats 0
open PF
namespace K00
open PySem PySem.Spec PyProof.Rows L2
abbrev R : PySem.W.OpenRow := PySem.W.OpenLaw.row PySem.Challenge.rw_archesjoined_k00_whole_field_numbers
abbrev tfd : List He.Defn := tf.map (·.1)
abbrev hk : PySem.W.Hook := He.hookX 4 facts fnl [] tfd rest
def ob (s : PySem.W.SharedT) : He.AlX := He.obsX 4 facts fnl [] tfd rest (HandSHeadRun.getT s)
theorem ob_eq (s : PySem.W.SharedT) : ob s = hk.obs s.abs := He.obsX_eq (HandSHeadRun.getT_eq s)
def loose : List PySem.Str := [PySem.Str.ofString "is_tuple_of", PySem.Str.ofString "is_fraction", PySem.Str.ofString "need_fraction", PySem.Str.ofString "lowest", PySem.Str.ofString "plus", PySem.Str.ofString "minus", PySem.Str.ofString "times", PySem.Str.ofString "over", PySem.Str.ofString "fraction_sum", PySem.Str.ofString "fraction_product", PySem.Str.ofString "fraction_by", PySem.Str.ofString "is_most", PySem.Str.ofString "at_most", PySem.Str.ofString "is_field_number", PySem.Str.ofString "need_number", PySem.Str.ofString "root_of_both", PySem.Str.ofString "need_root", PySem.Str.ofString "field_plus", PySem.Str.ofString "field_times", PySem.Str.ofString "is_nothing", PySem.Str.ofString "field_inverse", PySem.Str.ofString "number_sum", PySem.Str.ofString "number_product", PySem.Str.ofString "number_by", PySem.Str.ofString "_law_cup", PySem.Str.ofString "_law_roll", PySem.Str.ofString "_law_some", PySem.Str.ofString "_law_sort", PySem.Str.ofString "_law_like", PySem.Str.ofString "_law_lowest", PySem.Str.ofString "_law_plus", PySem.Str.ofString "_law_times", PySem.Str.ofString "_law_fraction", PySem.Str.ofString "_law_field", PySem.Str.ofString "_law_field_times", PySem.Str.ofString "_law_field_plus", PySem.Str.ofString "_law_fractions_right", PySem.Str.ofString "_law_fields_right", PySem.Str.ofString "_law_limits_right", PySem.Str.ofString "_law_error", PySem.Str.ofString "ROOTS", PySem.Str.ofString "NOTHING", PySem.Str.ofString "ArchError", PySem.Str.ofString "InvalidNumber", PySem.Str.ofString "InvalidFraction", PySem.Str.ofString "NotFound", PySem.Str.ofString "NotNow", PySem.Str.ofString "__name__"]
theorem run (w : World) : HandSHeadRun.RunEqI R (PySem.W.view R.prog [0, 53]) hk ob 6000 loose w := by
  unfold HandSHeadRun.RunEqI
  kernel_rfl
/-- the law holds where PF's run of it answers True -/
theorem holds_of (main : ∀ ns : List Int, ns.length ≤ 63 → (∀ z ∈ ns, Builtin.Int.intBits z ≤ 1048576) → ∃ os, prg.den 40 39 [.val (.scr (ns.map U.int))] = .ok (.val (.bl true), os)) : PySem.Challenge.rw_archesjoined_k00_whole_field_numbers.Holds := by
  w_on; o_law
  refine HandSHeadRun.head_imp (r := R) (q := PySem.W.view R.prog [0, 53]) (H := hk) (ob := ob) (M := 6000) (loose := loose) (d := HandSHeadRun.topDef R.prog 53) (kwd := []) ob_eq
    run (by kernel_rfl) (by kernel_rfl) (by kernel_rfl) (by rfl) (by first | assumption | decide +kernel) (by decide +kernel) ⟨rfl, rfl, rfl, rfl, rfl, by decide +kernel⟩ ?hw ?hc
  case hw => w_witness2
  case hc =>
    refine walk_tabs (l := PySem.Challenge.rw_archesjoined_k00_whole_field_numbers) (n := 63) (k := 81) (x := "script") (CX := fun w => L2N.CX PySem.Challenge.pw_archesjoined_k00_whole_field_numbers w) rfl (by decide) (by kernel_rfl) ⟨rfl, by decide, by decide⟩ ?F (fun _ _ _ _ _ z => cx_false z)
    intro w mg f h XX Y G hmg0
    obtain ⟨K, KX, Z⟩ := Y
    have c := Z.t.d
    have r : rest K = true := Z.more
    have hg : mg "gcd" = some (.builtin "math.gcd") := gcd_of XX (by kernel_rfl)
    have hmg : mg ("law" : PySem.Str) = some (.ref f) := by
      have e : (HandSHeadRun.topDef R.prog 53).name = ("law" : PySem.Str) := by kernel_rfl
      rw [← e]
      exact hmg0
    have ok := prg_ok KX G c r hg
    obtain ⟨fad, e1, e2⟩ := ok.fns 39 "law" rfl
    have e := hmg.symm.trans e2
    cases e1
    cases e
    obtain ⟨fd, F⟩ := c.def_ 39 (d := d_law) rfl
    have D : DefOk prg T K (FAk K) (csOf K tf) 39 (He.ga K "law") f_law _ _ _ _ _ fd N_law ["script"] none := ⟨rfl, F, F.bindsN fun _ _ _ _ _ _ us hl => match us, hl with | [_], _ => rfl, C8.fnScope_by (by decide +kernel), rfl, rfl, k_law, no_lam⟩
    have mem : ∀ z ∈ csOf K tf, ∃ q ∈ tfd, z = He.cT K q := fun z hz => by
      obtain ⟨q, hq, rfl⟩ := List.mem_map.mp hz
      exact ⟨q.1, List.mem_map.mpr ⟨q, hq, rfl⟩, rfl⟩
    exact ⟨K, KX, law_at (k := 39) KX ok D rfl (fun z hz => by obtain ⟨q, hq, rfl⟩ := mem z hz; exact Z.empty q hq) (fun z hz => by obtain ⟨q, hq, rfl⟩ := mem z hz; exact Z.out q hq) (fun z hz => by obtain ⟨q, hq, rfl⟩ := mem z hz; exact Z.hd q hq)
      (fun s u => F.bindsA (ps := ["script"]) (fun _ _ _ _ _ _ us hl => match us, hl with | [_], _ => rfl) s [u] rfl) main⟩
end K00
end
section
set_option autoImplicit false
namespace K00
def cg (t b : Int) : Int := (Nat.gcd t.natAbs b.natAbs : Nat)
def cn (t b : Int) : Int := if b / cg t b > 0 then t / cg t b else -(t / cg t b)
def cd (t b : Int) : Int := if b / cg t b > 0 then b / cg t b else -(b / cg t b)
/-- a fraction in lowest terms -/
def Can (a b : Int) : Prop := 0 < b ∧ Nat.gcd a.natAbs b.natAbs = 1
theorem cg_pos {t b : Int} (h : b ≠ 0) : 0 < cg t b := by
  unfold cg
  have : 0 < Nat.gcd t.natAbs b.natAbs := Nat.gcd_pos_of_pos_right _ (by omega)
  omega
theorem cg_dl (t b : Int) : cg t b ∣ t := by
  unfold cg
  exact Int.ofNat_dvd_left.mpr (Nat.gcd_dvd_left _ _)
theorem cg_dr (t b : Int) : cg t b ∣ b := by
  unfold cg
  exact Int.ofNat_dvd_left.mpr (Nat.gcd_dvd_right _ _)
theorem cdiv {t b : Int} : t = cg t b * (t / cg t b) ∧ b = cg t b * (b / cg t b) := ⟨(Int.mul_ediv_cancel' (cg_dl t b)).symm, (Int.mul_ediv_cancel' (cg_dr t b)).symm⟩
/-- the value -/
def q (a b : Int) : Rat := (a : Rat) / (b : Rat)
theorem q_eq {a b c d : Int} (hb : b ≠ 0) (hd : d ≠ 0) : q a b = q c d ↔ a * d = c * b := by
  unfold q
  have hb' : (b : Rat) ≠ 0 := by exact_mod_cast hb
  have hd' : (d : Rat) ≠ 0 := by exact_mod_cast hd
  constructor
  · intro e
    have : ((a * d : Int) : Rat) = ((c * b : Int) : Rat) := by push_cast; grind
    exact_mod_cast this
  · intro e
    have : ((a * d : Int) : Rat) = ((c * b : Int) : Rat) := by rw [e]
    push_cast at this
    grind
theorem can_q {a b c d : Int} (h : Can a b) (h' : Can c d) (e : q a b = q c d) : a = c ∧ b = d := by
  obtain ⟨h1, h2⟩ := h
  obtain ⟨h3, h4⟩ := h'
  have e := (q_eq (by omega) (by omega)).mp e
  have en : a.natAbs * d.natAbs = c.natAbs * b.natAbs := by rw [← Int.natAbs_mul, ← Int.natAbs_mul, e]
  have d1 : b.natAbs ∣ d.natAbs := Nat.Coprime.dvd_of_dvd_mul_left (k := b.natAbs) (m := a.natAbs) (by rw [Nat.Coprime, Nat.gcd_comm]; exact h2) (by rw [en]; exact Nat.dvd_mul_left _ _)
  have d2 : d.natAbs ∣ b.natAbs := Nat.Coprime.dvd_of_dvd_mul_left (k := d.natAbs) (m := c.natAbs) (by rw [Nat.Coprime, Nat.gcd_comm]; exact h4) (by rw [← en]; exact Nat.dvd_mul_left _ _)
  have e2 := Nat.dvd_antisymm d1 d2
  have e3 : b = d := by omega
  subst e3
  exact ⟨Int.eq_of_mul_eq_mul_right (by omega) e, rfl⟩
theorem gcd_quot {t b : Int} (h : b ≠ 0) : Nat.gcd (t / cg t b).natAbs (b / cg t b).natAbs = 1 := by
  have hp : 0 < Nat.gcd t.natAbs b.natAbs := Nat.gcd_pos_of_pos_right _ (by omega)
  have e1 : (t / cg t b).natAbs = t.natAbs / Nat.gcd t.natAbs b.natAbs := by
    rw [Int.natAbs_ediv_of_dvd (cg_dl t b)]; rfl
  have e2 : (b / cg t b).natAbs = b.natAbs / Nat.gcd t.natAbs b.natAbs := by
    rw [Int.natAbs_ediv_of_dvd (cg_dr t b)]; rfl
  rw [e1, e2]
  exact Nat.coprime_div_gcd_div_gcd hp
theorem quot_ne {t b : Int} (h : b ≠ 0) : b / cg t b ≠ 0 := fun z => by
  have := (cdiv (t := t) (b := b)).2
  rw [z, Int.mul_zero] at this
  exact h this
theorem can_c {t b : Int} (h : b ≠ 0) : Can (cn t b) (cd t b) := by
  have g1 := gcd_quot (t := t) h
  have g2 := quot_ne (t := t) h
  unfold Can cn cd
  split
  · exact ⟨by omega, g1⟩
  · exact ⟨by omega, by rw [Int.natAbs_neg, Int.natAbs_neg]; exact g1⟩
theorem q_c {t b : Int} (h : b ≠ 0) : q (cn t b) (cd t b) = q t b := by
  have c := (can_c (t := t) h).1
  refine (q_eq (by omega) h).mpr ?_
  obtain ⟨e1, e2⟩ := cdiv (t := t) (b := b)
  unfold cn cd
  generalize cg t b = g at *
  split <;> grind
/-- what is in lowest terms stays -/
theorem c_can {a b : Int} (h : Can a b) : cn a b = a ∧ cd a b = b := can_q (can_c (by have := h.1; omega)) h (q_c (by have := h.1; omega))
theorem c_eq {t b c d : Int} (hb : b ≠ 0) (h : Can c d) (e : q t b = q c d) : cn t b = c ∧ cd t b = d := can_q (can_c hb) h ((q_c hb).trans e)
theorem q_plus {a b c d : Int} (hb : b ≠ 0) (hd : d ≠ 0) : q (a * d + c * b) (b * d) = q a b + q c d := by
  unfold q
  have hb' : (b : Rat) ≠ 0 := by exact_mod_cast hb
  have hd' : (d : Rat) ≠ 0 := by exact_mod_cast hd
  push_cast
  grind
theorem q_minus {a b c d : Int} (hb : b ≠ 0) (hd : d ≠ 0) : q (a * d - c * b) (b * d) = q a b - q c d := by
  unfold q
  have hb' : (b : Rat) ≠ 0 := by exact_mod_cast hb
  have hd' : (d : Rat) ≠ 0 := by exact_mod_cast hd
  push_cast
  grind
theorem q_times {a b c d : Int} (hb : b ≠ 0) (hd : d ≠ 0) : q (a * c) (b * d) = q a b * q c d := by
  unfold q
  have hb' : (b : Rat) ≠ 0 := by exact_mod_cast hb
  have hd' : (d : Rat) ≠ 0 := by exact_mod_cast hd
  push_cast
  grind
theorem q_over {a b c d : Int} (hb : b ≠ 0) (hd : d ≠ 0) (hc : c ≠ 0) : q (a * d) (b * c) = q a b / q c d := by
  unfold q
  have hb' : (b : Rat) ≠ 0 := by exact_mod_cast hb
  have hd' : (d : Rat) ≠ 0 := by exact_mod_cast hd
  have hc' : (c : Rat) ≠ 0 := by exact_mod_cast hc
  push_cast
  grind
end K00
end
section
set_option autoImplicit false
namespace K00
theorem cn_le {t b : Int} : (cn t b).natAbs ≤ t.natAbs := by
  have : (t / cg t b).natAbs ≤ t.natAbs := by
    rw [Int.natAbs_ediv_of_dvd (cg_dl t b)]
    exact Nat.div_le_self _ _
  unfold cn
  split <;> omega
theorem cd_le {t b : Int} : (cd t b).natAbs ≤ b.natAbs := by
  have : (b / cg t b).natAbs ≤ b.natAbs := by
    rw [Int.natAbs_ediv_of_dvd (cg_dr t b)]
    exact Nat.div_le_self _ _
  unfold cd
  split <;> omega
/-- a fraction's size -/
def Sz (k : Nat) (a b : Int) : Prop := a.natAbs < 2 ^ k ∧ b.natAbs < 2 ^ k
theorem Sz.c {k : Nat} {t b : Int} (h : Sz k t b) : Sz k (cn t b) (cd t b) := ⟨Nat.lt_of_le_of_lt cn_le h.1, Nat.lt_of_le_of_lt cd_le h.2⟩
theorem mul_lt {k l : Nat} {a b : Int} (h : a.natAbs < 2 ^ k) (h' : b.natAbs < 2 ^ l) : (a * b).natAbs < 2 ^ (k + l) := by
  rw [Int.natAbs_mul, Nat.pow_add]
  exact Nat.mul_lt_mul'' h h'
theorem Sz.times {k l : Nat} {a b c d : Int} (h : Sz k a b) (h' : Sz l c d) : Sz (k + l) (a * c) (b * d) := ⟨mul_lt h.1 h'.1, mul_lt h.2 h'.2⟩
theorem Sz.over {k l : Nat} {a b c d : Int} (h : Sz k a b) (h' : Sz l c d) : Sz (k + l) (a * d) (b * c) := ⟨mul_lt h.1 h'.2, mul_lt h.2 h'.1⟩
theorem Sz.mono {k l : Nat} {a b : Int} (h : Sz k a b) (hk : k ≤ l) : Sz l a b := ⟨Nat.lt_of_lt_of_le h.1 (Nat.pow_le_pow_right (by decide) hk), Nat.lt_of_lt_of_le h.2 (Nat.pow_le_pow_right (by decide) hk)⟩
theorem Sz.plus {k l : Nat} {a b c d : Int} (h : Sz k a b) (h' : Sz l c d) : Sz (k + l + 1) (a * d + c * b) (b * d) := by
  have h1 := mul_lt h.1 h'.2
  have h2 := mul_lt h'.1 h.2
  have h3 := mul_lt h.2 h'.2
  rw [Nat.add_comm l k] at h2
  refine ⟨?_, ?_⟩
  · have := Int.natAbs_add_le (a * d) (c * b)
    rw [Nat.pow_succ]; omega
  · rw [Nat.pow_succ]; omega
theorem Sz.minus {k l : Nat} {a b c d : Int} (h : Sz k a b) (h' : Sz l c d) : Sz (k + l + 1) (a * d - c * b) (b * d) := by
  have h1 := mul_lt h.1 h'.2
  have h2 := mul_lt h'.1 h.2
  have h3 := mul_lt h.2 h'.2
  rw [Nat.add_comm l k] at h2
  refine ⟨?_, ?_⟩
  · have := Int.natAbs_sub_le (a * d) (c * b)
    rw [Nat.pow_succ]; omega
  · rw [Nat.pow_succ]; omega
theorem sq_mod {r m : Int} (hr : r = 2 ∨ r = 3 ∨ r = 5) (h : r ∣ m * m) : r ∣ m := by
  have e : m * m % r = (m % r) * (m % r) % r := by rw [Int.mul_emod]
  have h0 : m * m % r = 0 := Int.emod_eq_zero_of_dvd h
  rw [h0] at e
  refine Int.dvd_of_emod_eq_zero ?_
  rcases hr with rfl | rfl | rfl
  · have : m % 2 = 0 ∨ m % 2 = 1 := by omega
    rcases this with q | q <;> rw [q] at e <;> first | exact q | (simp at e)
  · have : m % 3 = 0 ∨ m % 3 = 1 ∨ m % 3 = 2 := by omega
    rcases this with q | q | q <;> rw [q] at e <;> first | exact q | (simp at e)
  · have : m % 5 = 0 ∨ m % 5 = 1 ∨ m % 5 = 2 ∨ m % 5 = 3 ∨ m % 5 = 4 := by omega
    rcases this with q | q | q | q | q <;> rw [q] at e <;> first | exact q | (simp at e)
theorem irr {r : Int} (hr : r = 2 ∨ r = 3 ∨ r = 5) : ∀ (k : Nat) (m n : Int), n.natAbs ≤ k → m * m = r * (n * n) → n = 0
  | 0, m, n, hk, _ => by omega
  | k + 1, m, n, hk, e => by
    have hr0 : 2 ≤ r := by omega
    obtain ⟨m', em⟩ := sq_mod hr ⟨n * n, e⟩
    subst em
    have e2 : r * (m' * m') = n * n := by
      have : r * (r * (m' * m')) = r * (n * n) := by rw [← e]; grind
      exact Int.eq_of_mul_eq_mul_left (by omega) this
    obtain ⟨n', en⟩ := sq_mod hr ⟨m' * m', e2.symm⟩
    subst en
    have e3 : m' * m' = r * (n' * n') := by
      have : r * (m' * m') = r * (r * (n' * n')) := by rw [e2]; grind
      exact Int.eq_of_mul_eq_mul_left (by omega) this
    have hl : n'.natAbs ≤ k := by
      by_cases z : n' = 0
      · subst z; omega
      · have : (r * n').natAbs = r.natAbs * n'.natAbs := Int.natAbs_mul _ _
        have h2 : 2 * n'.natAbs ≤ r.natAbs * n'.natAbs := Nat.mul_le_mul_right _ (by omega)
        omega
    rw [irr hr k m' n' hl e3, Int.mul_zero]
/-- x + y sqrt r has an inverse -/
theorem norm_ne {r : Int} (hr : r = 2 ∨ r = 3 ∨ r = 5) {a b c d : Int} (hb : b ≠ 0) (hd : d ≠ 0) (h : q a b * q a b - (r : Rat) * (q c d * q c d) = 0) : a = 0 ∧ c = 0 := by
  have hb' : (b : Rat) ≠ 0 := by exact_mod_cast hb
  have hd' : (d : Rat) ≠ 0 := by exact_mod_cast hd
  have e : ((a * d * (a * d) : Int) : Rat) = ((r * (c * b * (c * b)) : Int) : Rat) := by
    unfold q at h
    push_cast
    grind
  have e : a * d * (a * d) = r * (c * b * (c * b)) := by exact_mod_cast e
  have z := irr hr _ _ _ (Nat.le_refl _) e
  have hc : c = 0 := (Int.mul_eq_zero.mp z).resolve_right hb
  subst hc
  have e1 : a * d * (a * d) = 0 := by rw [e]; simp
  have e2 : a * d = 0 := (Int.mul_eq_zero.mp e1).elim id id
  exact ⟨(Int.mul_eq_zero.mp e2).resolve_right hd, rfl⟩
theorem inv_id {r x1 x2 y1 y2 s : Rat} (hs : s = y1 * y1 - r * (y2 * y2)) (h : s ≠ 0) :
    (x1 * (y1 / s) + r * (x2 * (-1 * y2 / s))) * y1 + r * ((x1 * (-1 * y2 / s) + x2 * (y1 / s)) * y2) = x1 ∧ (x1 * (y1 / s) + r * (x2 * (-1 * y2 / s))) * y2 + (x1 * (-1 * y2 / s) + x2 * (y1 / s)) * y1 = x2 := by
  constructor <;> grind
end K00
end
section
set_option Elab.async false
set_option maxRecDepth 100000
set_option maxHeartbeats 0
namespace K00
open PF
/-- the closed part: it never looks at the cup -/
theorem limits (x y : Int) : prg.den 39 38 [.own (.lst [.int x, .int y]) true] = .ok (.val (.bl true), [.own (.lst [.int x, .int y]) true]) := by kernel_rfl
end K00
end
section
set_option Elab.async false
set_option linter.all false
set_option maxRecDepth 100000
namespace K00
open PF PySem
abbrev GG (k : Nat) : Gx := prg.gx (prg.den k)
abbrev iv (i : Int) : Slot := .val (.int i)
abbrev bv (b : Bool) : Slot := .val (.bl b)
abbrev fr (a b : Int) : U := .tup [.int a, .int b]
abbrev fv (a b : Int) : Slot := .val (fr a b)
theorem den_tof (k : Nat) (as : List Slot) : prg.den (k + 1) 0 as = runFn (GG k) f_is_tuple_of as := rfl
theorem den_isf (k : Nat) (as : List Slot) : prg.den (k + 1) 1 as = runFn (GG k) f_is_fraction as := rfl
theorem den_needf (k : Nat) (as : List Slot) : prg.den (k + 1) 2 as = runFn (GG k) f_need_fraction as := rfl
theorem den_lowest (k : Nat) (as : List Slot) : prg.den (k + 1) 3 as = runFn (GG k) f_lowest as := rfl
theorem den_plus (k : Nat) (as : List Slot) : prg.den (k + 1) 4 as = runFn (GG k) f_plus as := rfl
theorem den_minus (k : Nat) (as : List Slot) : prg.den (k + 1) 5 as = runFn (GG k) f_minus as := rfl
theorem den_times (k : Nat) (as : List Slot) : prg.den (k + 1) 6 as = runFn (GG k) f_times as := rfl
theorem den_over (k : Nat) (as : List Slot) : prg.den (k + 1) 7 as = runFn (GG k) f_over as := rfl
theorem gcdF_cg (t b : Int) : gcdF (.int t) (.int b) = some (.int (cg t b)) := rfl
theorem big_log {k : Nat} {i : Int} (h : i.natAbs < 2 ^ k) (hk : 0 < k) : i.natAbs.log2 < k := by
  by_cases z : i.natAbs = 0
  · rw [z]; simpa using hk
  · exact (Nat.log2_lt z).mpr h
theorem mul_ok {k l : Nat} {i j : Int} (h : i.natAbs < 2 ^ k) (h' : j.natAbs < 2 ^ l) (hk : 0 < k) (hl : 0 < l) (hz : k + l < 1000000) : mulOk i j = true := by
  have h1 := big_log h hk
  have h2 := big_log h' hl
  unfold mulOk
  rw [decide_eq_true (p := i.natAbs.log2 + j.natAbs.log2 < 1000000) (by omega), Bool.or_true]
theorem cg_le {t b : Int} (h : b ≠ 0) : (cg t b).natAbs ≤ b.natAbs := by
  unfold cg
  exact Nat.le_of_dvd (by omega) (Nat.gcd_dvd_right _ _)
theorem div_ok {k : Nat} {t b : Int} (hb : b ≠ 0) (h : b.natAbs < 2 ^ k) (hk : 0 < k) (hz : k ≤ 9000) : divOk (cg t b) = true := by
  have h1 := big_log (Nat.lt_of_le_of_lt (cg_le (t := t) hb) h) hk
  unfold divOk
  rw [decide_eq_true (cg_pos hb), decide_eq_true (p := (cg t b).natAbs.log2 < 9000) (by omega), Bool.or_true, Bool.and_true]
section
variable {G : Gx} {a b : E} {e e1 e2 : En} {i j : Int}
theorem fdiv_ok (h1 : evE G a e = .ok (iv i, e1)) (h2 : evE G b e1 = .ok (iv j, e2)) (h : divOk j = true) : evE G (.bin .fdiv a b) e = .ok (iv (i / j), e2) := by
  rw [evE_bin, h1, Res.bind_ok]
  show ((evE G b e1).bind _) = _
  rw [h2, Res.bind_ok]
  have q : opF .fdiv (.int i) (.int j) = some (iv (i / j)) := if_pos h
  show (Res.of (opF .fdiv (.int i) (.int j))).bind _ = _
  rw [q]
  rfl
theorem cons_ok {r : E} {w : Slot} {ws : List Slot} (h1 : evE G a e = .ok (w, e1)) (h2 : evL G r e1 = .ok (ws, e2)) : evL G (.cons a r) e = .ok (w :: ws, e2) := by
  show ((evE G a e).bind _) = _
  rw [h1, Res.bind_ok]
  show ((evL G r e1).bind _) = _
  rw [h2]
  rfl
theorem par_ok {ts es : E} {ws : List Slot} (h1 : evL G es e = .ok (ws, e1)) (h2 : parF ts ws e1 = some e2) : exS G (.par ts es) e = .ok (.nx, e2) := by
  rw [exS_par, h1, Res.bind_ok]
  show (Res.of (parF ts ws e1)).bind _ = _
  rw [h2]
  rfl
end
theorem lowest_run {D : Den} (t b : Int) (hd : divOk (cg t b) = true) : runFn (prg.gx D) f_lowest [iv t, iv b] = .ok (fv (cn t b) (cd t b), [iv t, iv b]) := by
  refine wpDen_eq (run_wp (env0 := [iv t, iv b, .emp]) rfl ?_)
  conv => whnf
  refine ⟨hd, ?_⟩
  conv => whnf
  refine ⟨hd, ?_⟩
  conv => whnf
  refine wpB_dec (fun h => ?_) (fun h => ?_)
  · conv => whnf
    refine ⟨?_, rfl⟩
    have h : b / cg t b > 0 := h
    unfold cn cd
    rw [if_pos h, if_pos h]
    rfl
  · conv => whnf
    refine ⟨?_, rfl⟩
    have h : ¬b / cg t b > 0 := h
    unfold cn cd
    rw [if_neg h, if_neg h]
    rfl
theorem lowest (k : Nat) (t b : Int) {z : Nat} (hb : b ≠ 0) (h : b.natAbs < 2 ^ z) (h0 : 0 < z) (hz : z ≤ 9000) : prg.den (k + 1) 3 [iv t, iv b] = .ok (fv (cn t b) (cd t b), [iv t, iv b]) :=
  lowest_run (D := prg.den k) t b (div_ok hb h h0 hz)
theorem iteT {G : Gx} {c a b : E} {e e1 : En} (h : evE G c e = .ok (bv true, e1)) : evE G (.ite c a b) e = evE G a e1 := by
  rw [evE_ite, h]; rfl
theorem iteF {G : Gx} {c a b : E} {e e1 : En} (h : evE G c e = .ok (bv false, e1)) : evE G (.ite c a b) e = evE G b e1 := by
  rw [evE_ite, h]; rfl
end K00
end
section
set_option Elab.async false
set_option linter.all false
set_option maxRecDepth 100000
namespace K00
open PF PySem
section
variable {G : Gx} {a b : E} {e e1 e2 : En} {i j : Int}
theorem mulE {k l : Nat} (h1 : evE G a e = .ok (iv i, e1)) (h2 : evE G b e1 = .ok (iv j, e2)) (h : mulOk i j = true) : evE G (.bin .mul a b) e = .ok (iv (i * j), e2) := by
  rw [evE_bin, h1, Res.bind_ok]
  show ((evE G b e1).bind _) = _
  rw [h2, Res.bind_ok]
  have q : opF .mul (.int i) (.int j) = some (iv (i * j)) := if_pos h
  show (Res.of (opF .mul (.int i) (.int j))).bind _ = _
  rw [q]
  rfl
theorem addE (h1 : evE G a e = .ok (iv i, e1)) (h2 : evE G b e1 = .ok (iv j, e2)) : evE G (.bin .add a b) e = .ok (iv (i + j), e2) := by
  rw [evE_bin, h1, Res.bind_ok]
  show ((evE G b e1).bind _) = _
  rw [h2]
  rfl
theorem subE' (h1 : evE G a e = .ok (iv i, e1)) (h2 : evE G b e1 = .ok (iv j, e2)) : evE G (.bin .sub a b) e = .ok (iv (i - j), e2) := by
  rw [evE_bin, h1, Res.bind_ok]
  show ((evE G b e1).bind _) = _
  rw [h2]
  rfl
theorem callE {f : Nat} {es : E} {ws as os : List Slot} {md : List Bool} {u : U} (hL : evL G es e = .ok (ws, e1)) (hm : G.modes f = some md) (ha : argsF e1 md ws = some as) (hn : (borrows ws).Nodup) (hd : G.den f as = .ok (.val u, os)) (hb : backF e1 ws os = some e2) : evE G (.call f es) e = .ok (.val u, e2) := by
  rw [evE_call, hL, Res.bind_ok]
  show callD G f ws e1 = _
  unfold callD
  rw [hm, Res.of_some, Res.bind_ok]
  show (Res.of (argsF e1 md ws)).bind _ = _
  rw [ha, Res.of_some, Res.bind_ok, if_pos hn, hd]
  show (Res.of (backF e1 ws os)).bind _ = _
  rw [hb]
  rfl
theorem retE {w : Slot} (h : evE G a e = .ok (w, e1)) (hw : ∀ i, w ≠ .bor i) : exS G (.seq (.ret a) .nil) e = .ok (.rt w, e1) := seq_rt (ret_ok h hw)
end
theorem times (k : Nat) {a b c d : Int} {z y : Nat} (h1 : Sz z a b) (h2 : Sz y c d) (hb : b ≠ 0) (hd : d ≠ 0) (hz : 0 < z) (hy : 0 < y) (hzy : z + y ≤ 9000) : prg.den (k + 2) 6 [fv a b, fv c d] = .ok (fv (cn (a * c) (b * d)) (cd (a * c) (b * d)), [fv a b, fv c d]) := by
  have m1 := mul_ok h1.1 h2.1 hz hy (by omega)
  have m2 := mul_ok h1.2 h2.2 hz hy (by omega)
  have hl := lowest k (a * c) (b * d) (Int.mul_ne_zero hb hd) (mul_lt h1.2 h2.2) (by omega) hzy
  have key : ∀ D : Den, D 3 [iv (a * c), iv (b * d)] = .ok (fv (cn (a * c) (b * d)) (cd (a * c) (b * d)), [iv (a * c), iv (b * d)]) → runFn (prg.gx D) f_times [fv a b, fv c d] = .ok (fv (cn (a * c) (b * d)) (cd (a * c) (b * d)), [fv a b, fv c d]) := fun D hD => by
    generalize cn (a * c) (b * d) = x at *
    generalize cd (a * c) (b * d) = y at *
    exact run_val (env := [fv a b, fv c d]) (env0 := [fv a b, fv c d]) rfl (retE (callE (cons_ok (mulE (k := 0) (l := 0) rfl rfl m1) (cons_ok (mulE (k := 0) (l := 0) rfl rfl m2) rfl)) rfl rfl List.nodup_nil hD rfl) fun i => by intro z; cases z)
  exact key _ hl
theorem plus (k : Nat) {a b c d : Int} {z y : Nat} (h1 : Sz z a b) (h2 : Sz y c d) (hb : b ≠ 0) (hd : d ≠ 0) (hz : 0 < z) (hy : 0 < y) (hzy : z + y ≤ 8999) : prg.den (k + 2) 4 [fv a b, fv c d] = .ok (fv (cn (a * d + c * b) (b * d)) (cd (a * d + c * b) (b * d)), [fv a b, fv c d]) := by
  have m1 := mul_ok h1.1 h2.2 hz hy (by omega)
  have m2 := mul_ok h2.1 h1.2 hy hz (by omega)
  have m3 := mul_ok h1.2 h2.2 hz hy (by omega)
  have hl := lowest k (a * d + c * b) (b * d) (Int.mul_ne_zero hb hd) (mul_lt h1.2 h2.2) (by omega) (by omega)
  have key : ∀ D : Den, D 3 [iv (a * d + c * b), iv (b * d)] = .ok (fv (cn (a * d + c * b) (b * d)) (cd (a * d + c * b) (b * d)), [iv (a * d + c * b), iv (b * d)]) → runFn (prg.gx D) f_plus [fv a b, fv c d] = .ok (fv (cn (a * d + c * b) (b * d)) (cd (a * d + c * b) (b * d)), [fv a b, fv c d]) := fun D hD => by
    generalize cn (a * d + c * b) (b * d) = x at *
    generalize cd (a * d + c * b) (b * d) = y at *
    exact run_val (env := [fv a b, fv c d]) (env0 := [fv a b, fv c d]) rfl (retE (callE (cons_ok (addE (mulE (k := 0) (l := 0) rfl rfl m1) (mulE (k := 0) (l := 0) rfl rfl m2)) (cons_ok (mulE (k := 0) (l := 0) rfl rfl m3) rfl)) rfl rfl List.nodup_nil hD rfl) fun i => by intro z; cases z)
  exact key _ hl
theorem minus (k : Nat) {a b c d : Int} {z y : Nat} (h1 : Sz z a b) (h2 : Sz y c d) (hb : b ≠ 0) (hd : d ≠ 0) (hz : 0 < z) (hy : 0 < y) (hzy : z + y ≤ 8999) : prg.den (k + 2) 5 [fv a b, fv c d] = .ok (fv (cn (a * d - c * b) (b * d)) (cd (a * d - c * b) (b * d)), [fv a b, fv c d]) := by
  have m1 := mul_ok h1.1 h2.2 hz hy (by omega)
  have m2 := mul_ok h2.1 h1.2 hy hz (by omega)
  have m3 := mul_ok h1.2 h2.2 hz hy (by omega)
  have hl := lowest k (a * d - c * b) (b * d) (Int.mul_ne_zero hb hd) (mul_lt h1.2 h2.2) (by omega) (by omega)
  have key : ∀ D : Den, D 3 [iv (a * d - c * b), iv (b * d)] = .ok (fv (cn (a * d - c * b) (b * d)) (cd (a * d - c * b) (b * d)), [iv (a * d - c * b), iv (b * d)]) → runFn (prg.gx D) f_minus [fv a b, fv c d] = .ok (fv (cn (a * d - c * b) (b * d)) (cd (a * d - c * b) (b * d)), [fv a b, fv c d]) := fun D hD => by
    generalize cn (a * d - c * b) (b * d) = x at *
    generalize cd (a * d - c * b) (b * d) = y at *
    exact run_val (env := [fv a b, fv c d]) (env0 := [fv a b, fv c d]) rfl (retE (callE (cons_ok (subE' (mulE (k := 0) (l := 0) rfl rfl m1) (mulE (k := 0) (l := 0) rfl rfl m2)) (cons_ok (mulE (k := 0) (l := 0) rfl rfl m3) rfl)) rfl rfl List.nodup_nil hD rfl) fun i => by intro z; cases z)
  exact key _ hl
theorem over (k : Nat) {a b c d : Int} {z y : Nat} (h1 : Sz z a b) (h2 : Sz y c d) (hb : b ≠ 0) (hd : d ≠ 0) (hc : c ≠ 0) (hz : 0 < z) (hy : 0 < y) (hzy : z + y ≤ 8999) : prg.den (k + 2) 7 [fv a b, fv c d] = .ok (fv (cn (a * d) (b * c)) (cd (a * d) (b * c)), [fv a b, fv c d]) := by
  have m1 := mul_ok h1.1 h2.2 hz hy (by omega)
  have m2 := mul_ok h1.2 h2.1 hz hy (by omega)
  have hl := lowest k (a * d) (b * c) (Int.mul_ne_zero hb hc) (mul_lt h1.2 h2.1) (by omega) (by omega)
  have key : ∀ D : Den, D 3 [iv (a * d), iv (b * c)] = .ok (fv (cn (a * d) (b * c)) (cd (a * d) (b * c)), [iv (a * d), iv (b * c)]) → runFn (prg.gx D) f_over [fv a b, fv c d] = .ok (fv (cn (a * d) (b * c)) (cd (a * d) (b * c)), [fv a b, fv c d]) := fun D hD => by
    generalize cn (a * d) (b * c) = x at *
    generalize cd (a * d) (b * c) = y at *
    exact run_val (env := [fv a b, fv c d]) (env0 := [fv a b, fv c d]) rfl (retE (callE (cons_ok (mulE (k := 0) (l := 0) rfl rfl m1) (cons_ok (mulE (k := 0) (l := 0) rfl rfl m2) rfl)) rfl rfl List.nodup_nil hD rfl) fun i => by intro z; cases z)
  exact key _ hl
end K00
end
section
set_option Elab.async false
set_option linter.all false
set_option maxRecDepth 100000
namespace K00
open PF PySem
section
variable {G : Gx} {a b : E} {e e1 e2 : En} {i j : Int}
theorem modE (h1 : evE G a e = .ok (iv i, e1)) (h2 : evE G b e1 = .ok (iv j, e2)) (h : 0 < j) : evE G (.bin .mod a b) e = .ok (iv (i % j), e2) := by
  rw [evE_bin, h1, Res.bind_ok]
  show ((evE G b e1).bind _) = _
  rw [h2, Res.bind_ok]
  have q : opF .mod (.int i) (.int j) = some (iv (i % j)) := if_pos h
  show (Res.of (opF .mod (.int i) (.int j))).bind _ = _
  rw [q]
  rfl
end
def lowB : S := .seq (.iff (.cmp .eq (.var 3) (.con (.int 0))) (.seq .brk .nil) .nil) (.seq (.par (.cons (.tnm 2) (.cons (.tnm 3) .nil)) (.cons (.var 3) (.cons (.bin .mod (.blt .int (.cons (.var 2) .nil)) (.var 3)) .nil))) .nil)
def lowT (G : Gx) (u : U) (env : En) : Res (Fl × En) := (Res.of (storeU (.tnm 4) u env)).bind fun env => exS G lowB env
theorem low_stop (G : Gx) (t b x : Int) (s : Slot) (hs : ∀ v, s ≠ .own v true) (u : U) : lowT G u [iv t, iv b, iv x, iv 0, s] = .ok (.bk, [iv t, iv b, iv x, iv 0, .val u]) := by
  cases s with
  | own v p => cases p with
    | true => exact (hs v rfl).elim
    | false => rfl
  | emp => rfl
  | val _ => rfl
  | bor _ => rfl
theorem low_step (G : Gx) (t b x y : Int) (hy : 0 < y) (s : Slot) (hs : ∀ v, s ≠ .own v true) (u : U) : lowT G u [iv t, iv b, iv x, iv y, s] = .ok (.nx, [iv t, iv b, iv y, iv (x % y), .val u]) := by
  have h1 : lowT G u [iv t, iv b, iv x, iv y, s] = exS G lowB [iv t, iv b, iv x, iv y, .val u] := by
    cases s with
    | own v p => cases p with
      | true => exact (hs v rfl).elim
      | false => rfl
    | emp => rfl
    | val _ => rfl
    | bor _ => rfl
  rw [h1]
  have hb : (y == 0) = false := by simpa using (by omega : y ≠ 0)
  have h2 : exS G (.iff (.cmp .eq (.var 3) (.con (.int 0))) (.seq .brk .nil) .nil) [iv t, iv b, iv x, iv y, .val u] = .ok (.nx, [iv t, iv b, iv x, iv y, .val u]) := by
    show (Res.ok (y == 0, [iv t, iv b, iv x, iv y, .val u])).bind _ = _
    rw [hb]
    rfl
  unfold lowB
  rw [seq_nx h2]
  have h3 : evE G (.blt .int (.cons (.var 2) .nil)) [iv t, iv b, iv x, iv y, .val u] = .ok (iv x, [iv t, iv b, iv x, iv y, .val u]) := rfl
  rw [seq_nx (par_ok (e2 := [iv t, iv b, iv y, iv (x % y), .val u]) (cons_ok rfl (cons_ok (modE h3 rfl hy) rfl)) rfl)]
  rfl
theorem forGo_cons {turn : U → En → Res (Fl × En)} {x : U} {r : List U} {e e1 : En} (h : turn x e = .ok (.nx, e1)) : forGo turn (x :: r) e = forGo turn r e1 := by
  show ((turn x e).bind _) = _
  rw [h]
  rfl
theorem forGo_bk {turn : U → En → Res (Fl × En)} {x : U} {r : List U} {e e1 : En} (h : turn x e = .ok (.bk, e1)) : forGo turn (x :: r) e = .ok (.nx, e1) := by
  show ((turn x e).bind _) = _
  rw [h]
  rfl
theorem low_loop (G : Gx) (t b : Int) : ∀ (m : Nat) (us : List U) (x y : Int) (s : Slot), 2 * m + 1 ≤ us.length → 0 ≤ x → 0 ≤ y → y.natAbs < 2 ^ m → (∀ v, s ≠ .own v true) →
    ∃ u : U, forGo (lowT G) us [iv t, iv b, iv x, iv y, s] = .ok (.nx, [iv t, iv b, iv (Nat.gcd x.natAbs y.natAbs : Nat), iv 0, .val u])
  | m, [], x, y, s, hl, _, _, _, _ => by simp at hl
  | m, u :: r, x, y, s, hl, hx, hy, hz, hs => by
    by_cases y0 : y = 0
    · subst y0
      refine ⟨u, (forGo_bk (low_stop G t b x s hs u)).trans ?_⟩
      have : ((Nat.gcd x.natAbs (0 : Int).natAbs : Nat) : Int) = x := by simp; omega
      rw [this]
    · cases m with
      | zero => simp at hz; omega
      | succ m =>
        have hyp : 0 < y := by omega
        have r0 : 0 ≤ x % y := Int.emod_nonneg _ y0
        have r1 : x % y < y := Int.emod_lt_of_pos _ hyp
        have g1 : Nat.gcd x.natAbs y.natAbs = Nat.gcd y.natAbs (x % y).natAbs := by
          rw [Nat.gcd_comm x.natAbs, Nat.gcd_rec y.natAbs, Nat.gcd_comm]
          congr 1
          have : (x % y).natAbs = x.natAbs % y.natAbs := by
            have h1 : ((x.natAbs % y.natAbs : Nat) : Int) = x % y := by
              rw [Int.natCast_emod, Int.natAbs_of_nonneg hx, Int.natAbs_of_nonneg hy]
            omega
          exact this.symm
        rw [forGo_cons (low_step G t b x y hyp s hs u), g1]
        have ns : ∀ v, (Slot.val u) ≠ .own v true := fun v z => by cases z
        cases r with
        | nil => simp at hl
        | cons u2 r =>
          by_cases z0 : x % y = 0
          · rw [z0]
            refine ⟨u2, (forGo_bk (low_stop G t b y (.val u) ns u2)).trans ?_⟩
            have : ((Nat.gcd y.natAbs (0 : Int).natAbs : Nat) : Int) = y := by simp; omega
            rw [this]
          · have zp : 0 < x % y := by omega
            generalize x % y = q at *
            have s0 : 0 ≤ y % q := Int.emod_nonneg _ z0
            have s1 : y % q < q := Int.emod_lt_of_pos _ zp
            have g2 : Nat.gcd y.natAbs q.natAbs = Nat.gcd q.natAbs (y % q).natAbs := by
              rw [Nat.gcd_comm y.natAbs, Nat.gcd_rec q.natAbs, Nat.gcd_comm]
              congr 1
              have h1 : ((y.natAbs % q.natAbs : Nat) : Int) = y % q := by
                rw [Int.natCast_emod, Int.natAbs_of_nonneg hy, Int.natAbs_of_nonneg (by omega : 0 ≤ q)]
              omega
            have hh : y % q + q ≤ y := by
              have e1 := Int.mul_ediv_add_emod y q
              have e2 : 1 ≤ y / q := (Int.le_ediv_iff_mul_le zp).mpr (by omega)
              have e3 : q * 1 ≤ q * (y / q) := Int.mul_le_mul_of_nonneg_left e2 (by omega)
              omega
            rw [forGo_cons (low_step G t b y q zp (.val u) ns u2), g2]
            refine low_loop G t b m r q (y % q) (.val u2) (by simp at hl; omega) (by omega) s0 ?_ (fun v z => by cases z)
            rw [Nat.pow_succ] at hz
            omega
end K00
end
section
set_option Elab.async false
set_option linter.all false
set_option maxRecDepth 100000
namespace K00
open PF PySem
theorem den_llow (k : Nat) (as : List Slot) : prg.den (k + 1) 29 as = runFn (GG k) f_law_lowest as := rfl
theorem absE {G : Gx} {n : Nat} {e : En} {i : Int} (h : e[n]? = some (iv i)) : evE G (.blt .abs (.cons (.var n) .nil)) e = .ok (iv (if i < 0 then -i else i), e) := by
  have h1 : evE G (.var n) e = .ok (iv i, e) := by rw [evE_var, h]
  rw [evE_blt, cons_ok (ws := []) h1 rfl]
  rfl
theorem low_tail {G : Gx} {t b g : Int} {s u : Slot} (hd : divOk g = true) (hs : ∀ i, s ≠ .bor i) : exS G (.seq (.par (.cons (.tnm 0) (.cons (.tnm 1) .nil)) (.cons (.bin .fdiv (.var 0) (.var 2)) (.cons (.bin .fdiv (.var 1) (.var 2)) .nil))) (.seq (.ret (.ite (.cmp .gt (.var 1) (.con (.int 0))) (.tup (.cons (.var 0) (.cons (.var 1) .nil))) (.tup (.cons (.neg (.var 0)) (.cons (.neg (.var 1)) .nil))))) .nil)) [iv t, iv b, iv g, s, u]
    = .ok (.rt (fv (if b / g > 0 then t / g else -(t / g)) (if b / g > 0 then b / g else -(b / g))), [iv (t / g), iv (b / g), iv g, s, u]) := by
  have h2 : (2 : Nat) ≤ sizeLine := by decide
  rw [seq_nx (par_ok (e2 := [iv (t / g), iv (b / g), iv g, s, u]) (cons_ok (fdiv_ok rfl rfl hd) (cons_ok (fdiv_ok rfl rfl hd) rfl)) rfl)]
  generalize t / g = x at *
  generalize b / g = y at *
  refine seq_rt (ret_ok ?_ fun i => by intro z; cases z)
  by_cases c : y > 0
  · rw [if_pos c, if_pos c]
    have c1 : evE G (.cmp .gt (.var 1) (.con (.int 0))) [iv x, iv y, iv g, s, u] = .ok (bv (decide (0 < y)), [iv x, iv y, iv g, s, u]) := rfl
    rw [decide_eq_true c] at c1
    exact (iteT c1).trans rfl
  · rw [if_neg c, if_neg c]
    have c1 : evE G (.cmp .gt (.var 1) (.con (.int 0))) [iv x, iv y, iv g, s, u] = .ok (bv (decide (0 < y)), [iv x, iv y, iv g, s, u]) := rfl
    rw [decide_eq_false c] at c1
    exact (iteF c1).trans rfl
theorem llowest (k : Nat) (t b : Int) {z : Nat} (hb : b ≠ 0) (h : b.natAbs < 2 ^ z) (h0 : 0 < z) (hz : z ≤ 2999) : prg.den (k + 1) 29 [iv t, iv b] = .ok (fv (cn t b) (cd t b), [iv t, iv b]) := by
  have hd : divOk (cg t b) = true := div_ok hb h h0 (by omega)
  rw [den_llow]
  generalize hG : GG k = G
  obtain ⟨u, hu⟩ := low_loop G t b z (upU 0 6000) (if t < 0 then -t else t) (if b < 0 then -b else b) .emp (by simp [upU]; omega) (by split <;> omega) (by split <;> omega) (by split <;> omega) (fun v q => by cases q)
  have eg : ((Nat.gcd (if t < 0 then -t else t).natAbs (if b < 0 then -b else b).natAbs : Nat) : Int) = cg t b := by
    unfold cg
    have e1 : (if t < 0 then -t else t).natAbs = t.natAbs := by split <;> omega
    have e2 : (if b < 0 then -b else b).natAbs = b.natAbs := by split <;> omega
    rw [e1, e2]
  rw [eg] at hu
  unfold cn cd
  have hI : evI G (.itr .rng1 (.cons (.con (.int 6000)) .nil)) [iv t, iv b, iv (if t < 0 then -t else t), iv (if b < 0 then -b else b), .emp] = .ok (upU 0 6000, [iv t, iv b, iv (if t < 0 then -t else t), iv (if b < 0 then -b else b), .emp]) := by
    have q : itF .rng1 [.int 6000] = some (upU 0 6000) := by simp [itF, near]
    simp only [evI, evL, evE_con, Res.bind_ok, frzs, frz, Option.bind_some, Option.map_some, Res.of_some, q]
  have e2 := (for_run (G := G) (tg := .tnm 4) (b := lowB) hI).trans hu
  clear hu hI eg h hb
  generalize upU 0 6000 = us at *
  generalize cg t b = g at *
  refine run_val (env0 := [iv t, iv b, .emp, .emp, .emp]) (env := [iv (t / g), iv (b / g), iv g, iv 0, .val u]) rfl ?_
  show exS G (.seq _ (.seq (.for_ _ _ lowB) _)) _ = _
  rw [seq_nx (par_ok (e2 := [iv t, iv b, iv (if t < 0 then -t else t), iv (if b < 0 then -b else b), .emp]) (cons_ok (absE rfl) (cons_ok (absE rfl) rfl)) rfl), seq_nx e2]
  exact low_tail hd (fun i q => by cases q)
end K00
end
section
set_option Elab.async false
set_option linter.all false
set_option maxRecDepth 100000
namespace K00
open PF PySem
theorem lplus (k : Nat) {a b c d : Int} {z y : Nat} (h1 : Sz z a b) (h2 : Sz y c d) (hb : b ≠ 0) (hd : d ≠ 0) (hz : 0 < z) (hy : 0 < y) (hzy : z + y ≤ 2999) : prg.den (k + 2) 30 [fv a b, fv c d] = .ok (fv (cn (a * d + c * b) (b * d)) (cd (a * d + c * b) (b * d)), [fv a b, fv c d]) := by
  have m1 := mul_ok h1.1 h2.2 hz hy (by omega)
  have m2 := mul_ok h2.1 h1.2 hy hz (by omega)
  have m3 := mul_ok h1.2 h2.2 hz hy (by omega)
  have hl := llowest k (a * d + c * b) (b * d) (Int.mul_ne_zero hb hd) (mul_lt h1.2 h2.2) (by omega) hzy
  have key : ∀ D : Den, D 29 [iv (a * d + c * b), iv (b * d)] = .ok (fv (cn (a * d + c * b) (b * d)) (cd (a * d + c * b) (b * d)), [iv (a * d + c * b), iv (b * d)]) → runFn (prg.gx D) f_law_plus [fv a b, fv c d] = .ok (fv (cn (a * d + c * b) (b * d)) (cd (a * d + c * b) (b * d)), [fv a b, fv c d]) := fun D hD => by
    generalize cn (a * d + c * b) (b * d) = x at *
    generalize cd (a * d + c * b) (b * d) = y at *
    exact run_val (env := [fv a b, fv c d]) (env0 := [fv a b, fv c d]) rfl (retE (callE (cons_ok (addE (mulE (k := 0) (l := 0) rfl rfl m1) (mulE (k := 0) (l := 0) rfl rfl m2)) (cons_ok (mulE (k := 0) (l := 0) rfl rfl m3) rfl)) rfl rfl List.nodup_nil hD rfl) fun i => by intro z; cases z)
  exact key _ hl
theorem ltimes (k : Nat) {a b c d : Int} {z y : Nat} (h1 : Sz z a b) (h2 : Sz y c d) (hb : b ≠ 0) (hd : d ≠ 0) (hz : 0 < z) (hy : 0 < y) (hzy : z + y ≤ 2999) : prg.den (k + 2) 31 [fv a b, fv c d] = .ok (fv (cn (a * c) (b * d)) (cd (a * c) (b * d)), [fv a b, fv c d]) := by
  have m1 := mul_ok h1.1 h2.1 hz hy (by omega)
  have m2 := mul_ok h1.2 h2.2 hz hy (by omega)
  have hl := llowest k (a * c) (b * d) (Int.mul_ne_zero hb hd) (mul_lt h1.2 h2.2) (by omega) hzy
  have key : ∀ D : Den, D 29 [iv (a * c), iv (b * d)] = .ok (fv (cn (a * c) (b * d)) (cd (a * c) (b * d)), [iv (a * c), iv (b * d)]) → runFn (prg.gx D) f_law_times [fv a b, fv c d] = .ok (fv (cn (a * c) (b * d)) (cd (a * c) (b * d)), [fv a b, fv c d]) := fun D hD => by
    generalize cn (a * c) (b * d) = x at *
    generalize cd (a * c) (b * d) = y at *
    exact run_val (env := [fv a b, fv c d]) (env0 := [fv a b, fv c d]) rfl (retE (callE (cons_ok (mulE (k := 0) (l := 0) rfl rfl m1) (cons_ok (mulE (k := 0) (l := 0) rfl rfl m2) rfl)) rfl rfl List.nodup_nil hD rfl) fun i => by intro z; cases z)
  exact key _ hl
end K00
end
section
set_option Elab.async false
set_option linter.all false
set_option maxRecDepth 100000
namespace K00
open PF PySem
abbrev cupS (a b : Int) : Slot := .own (.lst [.int a, .int b]) true
theorem den_roll (k : Nat) (as : List Slot) : prg.den (k + 1) 25 as = runFn (GG k) f_law_roll as := rfl
/-- a roll of 0 .. m - 1 -/
theorem roll_run {D : Den} (a b m : Int) (ha : 0 ≤ a) (hb : 0 ≤ b) (hm : 0 < m) (hm2 : m < 1073741824) : ∃ r a' b', 0 ≤ r ∧ r < m ∧ 0 ≤ a' ∧ 0 ≤ b' ∧ runFn (prg.gx D) f_law_roll [cupS a b, iv m] = .ok (iv r, [cupS a' b', iv m]) := by
  by_cases h : 0 < a
  · refine ⟨a % m, a / m, b, Int.emod_nonneg _ (by omega), Int.emod_lt_of_pos _ hm, Int.ediv_nonneg ha (by omega), hb, wpDen_eq (run_wp (env0 := [cupS a b, iv m, .emp]) rfl ?_)⟩
    conv => whnf
    refine wpB_td h ?_
    conv => whnf
    refine ⟨hm, ?_⟩
    conv => whnf
    refine ⟨by unfold divOk; rw [decide_eq_true hm, decide_eq_true hm2]; rfl, ?_⟩
    conv => whnf
    exact ⟨rfl, rfl⟩
  · refine ⟨(b * 20161 + 42299) % 1048576 / 127 % m, a, (b * 20161 + 42299) % 1048576, Int.emod_nonneg _ (by omega), Int.emod_lt_of_pos _ hm, ha, by omega, wpDen_eq (run_wp (env0 := [cupS a b, iv m, .emp]) rfl ?_)⟩
    conv => whnf
    refine wpB_fd h ?_
    conv => whnf
    refine ⟨by unfold mulOk; simp, ?_⟩
    conv => whnf
    refine ⟨by decide, ?_⟩
    conv => whnf
    refine ⟨by decide, ?_⟩
    conv => whnf
    refine ⟨hm, ?_⟩
    conv => whnf
    exact ⟨rfl, rfl⟩
theorem roll (k : Nat) (a b m : Int) (ha : 0 ≤ a) (hb : 0 ≤ b) (hm : 0 < m) (hm2 : m < 1073741824) : ∃ r a' b', 0 ≤ r ∧ r < m ∧ 0 ≤ a' ∧ 0 ≤ b' ∧ prg.den (k + 1) 25 [cupS a b, iv m] = .ok (iv r, [cupS a' b', iv m]) :=
  roll_run (D := prg.den k) a b m ha hb hm hm2
end K00
end
section
set_option Elab.async false
set_option linter.all false
set_option maxRecDepth 100000
namespace K00
open PF PySem
section
variable {G : Gx} {a b c : E} {e e1 e2 : En} {i j : Int} {A B : S}
theorem notE {x : Bool} (h : evE G a e = .ok (bv x, e1)) : evE G (.not a) e = .ok (bv (!x), e1) := by
  rw [evE_not, h]
  rfl
theorem iff_b {x : Bool} (hc : condF c (evE G c) e = (evE G c e).bind fun (p, env) => (Res.of (look env p)).bind fun u => (Res.of u.tru).bind fun k => .ok (k, env)) (h : evE G c e = .ok (bv x, e1)) : exS G (.iff c A B) e = if x then exS G A e1 else exS G B e1 := by
  rw [exS_iff, hc, h]
  rfl
theorem andT (h1 : evE G a e = .ok (bv true, e1)) : evE G (.and a b) e = evE G b e1 := by
  rw [evE_and, h1]
  rfl
end
theorem tof_run {D : Den} (us : List U) (lo hi : Int) : runFn (prg.gx D) f_is_tuple_of [.val (.tup us), iv lo, iv hi] = .ok (bv (decide (lo ≤ us.length ∧ us.length ≤ hi)), [.val (.tup us), iv lo, iv hi]) := by
  refine wpDen_eq (run_wp (env0 := [.val (.tup us), iv lo, iv hi]) rfl ?_)
  conv => whnf
  refine wpB_dec (fun h => ?_) (fun h => ?_)
  · conv => whnf
    refine ⟨?_, rfl⟩
    simp [h]
  · conv => whnf
    refine ⟨?_, rfl⟩
    simp [h]
theorem tof (k : Nat) (us : List U) (lo hi : Int) : prg.den (k + 1) 0 [.val (.tup us), iv lo, iv hi] = .ok (bv (decide (lo ≤ us.length ∧ us.length ≤ hi)), [.val (.tup us), iv lo, iv hi]) := tof_run (D := prg.den k) us lo hi
theorem isf (k : Nat) {a b : Int} (h : Can a b) : prg.den (k + 2) 1 [fv a b] = .ok (bv true, [fv a b]) := by
  have key : ∀ D : Den, D 0 [fv a b, iv 2, iv 2] = .ok (bv true, [fv a b, iv 2, iv 2]) → runFn (prg.gx D) f_is_fraction [fv a b] = .ok (bv true, [fv a b]) := fun D hD => by
    refine run_val (env0 := [fv a b, .emp]) (env := [fv a b, .emp]) rfl ?_
    show exS _ (.seq _ (.seq _ _)) _ = _
    have s1 : exS (prg.gx D) (.iff (.not (.call 0 (.cons (.var 0) (.cons (.con (.int 2)) (.cons (.con (.int 2)) .nil))))) (.seq (.ret (.con (.bl false))) .nil) .nil) [fv a b, .emp] = .ok (.nx, [fv a b, .emp]) :=
      (iff_b (x := false) (e1 := [fv a b, .emp]) rfl (notE (x := true) (callE (ws := [fv a b, iv 2, iv 2]) (e1 := [fv a b, .emp]) rfl rfl rfl List.nodup_nil hD rfl))).trans rfl
    have s2 : exS (prg.gx D) (.iff (.not (.blt .all (.cons (.cmp1 [1] (.tnm 1) (.itr .plain (.cons (.var 0) .nil)) .nil (.and (.ist .int (.var 1)) (.not (.ist .bool (.var 1))))) .nil))) (.seq (.ret (.con (.bl false))) .nil) .nil) [fv a b, .emp] = .ok (.nx, [fv a b, .emp]) := rfl
    rw [seq_nx s1, seq_nx s2]
    refine retE ?_ (fun i z => by cases z)
    have c1 : evE (prg.gx D) (.cmp .ge (.idx (.var 0) (.con (.int 1))) (.con (.int 1))) [fv a b, .emp] = .ok (bv (decide (1 ≤ b)), [fv a b, .emp]) := rfl
    rw [decide_eq_true (show 1 ≤ b by have := h.1; omega)] at c1
    rw [andT c1]
    have g1 : cg a b = 1 := by unfold cg; rw [h.2]; rfl
    have c2 : evE (prg.gx D) (.gcd (.idx (.var 0) (.con (.int 0))) (.idx (.var 0) (.con (.int 1)))) [fv a b, .emp] = .ok (iv (cg a b), [fv a b, .emp]) := rfl
    rw [g1] at c2
    rw [evE_cmp, c2]
    rfl
  exact key _ ((tof k [.int a, .int b] 2 2).trans rfl)
end K00
end
section
set_option Elab.async false
set_option linter.all false
set_option maxRecDepth 100000
namespace K00
open PF PySem
theorem run_nx {G : Gx} {f : Fn} {as env0 env : En} (h0 : as ++ List.replicate (f.n - as.length) .emp = env0) (h : exS G f.body env0 = .ok (.nx, env)) : runFn G f as = .ok (.val .non, outsF f.md env as) := by
  unfold runFn; rw [h0, h]
theorem expE {G : Gx} {a : E} {e e1 : En} {w : Slot} (h : evE G a e = .ok (w, e1)) : exS G (.exp a) e = .ok (.nx, e1) := by
  rw [exS_exp, h]; rfl
abbrev nv : Slot := .val .non
theorem needf (k : Nat) {a b : Int} (h : Can a b) : prg.den (k + 3) 2 [fv a b] = .ok (nv, [fv a b]) := by
  have key : ∀ D : Den, D 1 [fv a b] = .ok (bv true, [fv a b]) → runFn (prg.gx D) f_need_fraction [fv a b] = .ok (nv, [fv a b]) := fun D hD => by
    refine run_nx (env0 := [fv a b]) (env := [fv a b]) rfl ?_
    show exS _ (.seq _ .nil) _ = _
    have s1 : exS (prg.gx D) (.iff (.not (.call 1 (.cons (.var 0) .nil))) (.seq (.rse 1) .nil) .nil) [fv a b] = .ok (.nx, [fv a b]) :=
      (iff_b (x := false) (e1 := [fv a b]) rfl (notE (x := true) (callE (ws := [fv a b]) (e1 := [fv a b]) rfl rfl rfl List.nodup_nil hD rfl))).trans rfl
    rw [seq_nx s1]
    rfl
  exact key _ (isf k h)
theorem fsum (k : Nat) {a b c d : Int} {z y : Nat} (h1 : Sz z a b) (h2 : Sz y c d) (c1 : Can a b) (c2 : Can c d) (hz : 0 < z) (hy : 0 < y) (hzy : z + y ≤ 8999) : prg.den (k + 4) 8 [fv a b, fv c d] = .ok (fv (cn (a * d + c * b) (b * d)) (cd (a * d + c * b) (b * d)), [fv a b, fv c d]) := by
  have hp := plus (k + 1) h1 h2 (by have := c1.1; omega) (by have := c2.1; omega) hz hy hzy
  have n1 := needf k c1
  have n2 := needf k c2
  have key : ∀ (D : Den) (u : U), D 2 [fv a b] = .ok (nv, [fv a b]) → D 2 [fv c d] = .ok (nv, [fv c d]) → D 4 [fv a b, fv c d] = .ok (.val u, [fv a b, fv c d]) → runFn (prg.gx D) f_fraction_sum [fv a b, fv c d] = .ok (.val u, [fv a b, fv c d]) := fun D u q1 q2 q3 => by
    refine run_val (env0 := [fv a b, fv c d]) (env := [fv a b, fv c d]) rfl ?_
    show exS _ (.seq _ (.seq _ _)) _ = _
    rw [seq_nx (expE (e1 := [fv a b, fv c d]) (callE (ws := [fv a b]) (e1 := [fv a b, fv c d]) rfl rfl rfl List.nodup_nil q1 rfl)), seq_nx (expE (e1 := [fv a b, fv c d]) (callE (ws := [fv c d]) (e1 := [fv a b, fv c d]) rfl rfl rfl List.nodup_nil q2 rfl))]
    exact retE (callE (ws := [fv a b, fv c d]) rfl rfl rfl List.nodup_nil q3 rfl) fun i z => by cases z
  exact key _ _ n1 n2 hp
theorem fprod (k : Nat) {a b c d : Int} {z y : Nat} (h1 : Sz z a b) (h2 : Sz y c d) (c1 : Can a b) (c2 : Can c d) (hz : 0 < z) (hy : 0 < y) (hzy : z + y ≤ 8999) : prg.den (k + 4) 9 [fv a b, fv c d] = .ok (fv (cn (a * c) (b * d)) (cd (a * c) (b * d)), [fv a b, fv c d]) := by
  have hp := times (k + 1) h1 h2 (by have := c1.1; omega) (by have := c2.1; omega) hz hy (by omega)
  have n1 := needf k c1
  have n2 := needf k c2
  have key : ∀ (D : Den) (u : U), D 2 [fv a b] = .ok (nv, [fv a b]) → D 2 [fv c d] = .ok (nv, [fv c d]) → D 6 [fv a b, fv c d] = .ok (.val u, [fv a b, fv c d]) → runFn (prg.gx D) f_fraction_product [fv a b, fv c d] = .ok (.val u, [fv a b, fv c d]) := fun D u q1 q2 q3 => by
    refine run_val (env0 := [fv a b, fv c d]) (env := [fv a b, fv c d]) rfl ?_
    show exS _ (.seq _ (.seq _ _)) _ = _
    rw [seq_nx (expE (e1 := [fv a b, fv c d]) (callE (ws := [fv a b]) (e1 := [fv a b, fv c d]) rfl rfl rfl List.nodup_nil q1 rfl)), seq_nx (expE (e1 := [fv a b, fv c d]) (callE (ws := [fv c d]) (e1 := [fv a b, fv c d]) rfl rfl rfl List.nodup_nil q2 rfl))]
    exact retE (callE (ws := [fv a b, fv c d]) rfl rfl rfl List.nodup_nil q3 rfl) fun i z => by cases z
  exact key _ _ n1 n2 hp
end K00
end
section
set_option Elab.async false
set_option linter.all false
set_option maxRecDepth 100000
namespace K00
open PF PySem
theorem run_exc {G : Gx} {f : Fn} {as env0 env : En} {x : Exn} (h0 : as ++ List.replicate (f.n - as.length) .emp = env0) (h : exS G f.body env0 = .exc x env) : runFn G f as = .exc x (outsF f.md env as) := by
  unfold runFn; rw [h0, h]
theorem seq_exc {G : Gx} {a r : S} {env env1 : En} {x : Exn} (h : exS G a env = .exc x env1) : exS G (.seq a r) env = .exc x env1 := by
  rw [exS_seq, h]; rfl
theorem eqI (i j : Int) : cmpF .eq (.int i) (.int j) = some (i == j) := rfl
theorem fby (k : Nat) {a b c d : Int} {z y : Nat} (h1 : Sz z a b) (h2 : Sz y c d) (c1 : Can a b) (c2 : Can c d) (hc : c ≠ 0) (hz : 0 < z) (hy : 0 < y) (hzy : z + y ≤ 8999) : prg.den (k + 4) 10 [fv a b, fv c d] = .ok (fv (cn (a * d) (b * c)) (cd (a * d) (b * c)), [fv a b, fv c d]) := by
  have hp := over (k + 1) h1 h2 (by have := c1.1; omega) (by have := c2.1; omega) hc hz hy hzy
  have n1 := needf k c1
  have n2 := needf k c2
  have e0 : (c == 0) = false := by simpa using hc
  have key : ∀ (D : Den) (u : U), D 2 [fv a b] = .ok (nv, [fv a b]) → D 2 [fv c d] = .ok (nv, [fv c d]) → D 7 [fv a b, fv c d] = .ok (.val u, [fv a b, fv c d]) → runFn (prg.gx D) f_fraction_by [fv a b, fv c d] = .ok (.val u, [fv a b, fv c d]) := fun D u q1 q2 q3 => by
    refine run_val (env0 := [fv a b, fv c d]) (env := [fv a b, fv c d]) rfl ?_
    show exS _ (.seq _ (.seq _ (.seq _ _))) _ = _
    have cc : evE (prg.gx D) (.cmp .eq (.idx (.var 1) (.con (.int 0))) (.con (.int 0))) [fv a b, fv c d] = .ok (bv (c == 0), [fv a b, fv c d]) := rfl
    rw [e0] at cc
    have s3 : exS (prg.gx D) (.iff (.cmp .eq (.idx (.var 1) (.con (.int 0))) (.con (.int 0))) (.seq (.rse 2) .nil) .nil) [fv a b, fv c d] = .ok (.nx, [fv a b, fv c d]) := (iff_b (x := false) rfl cc).trans rfl
    rw [seq_nx (expE (e1 := [fv a b, fv c d]) (callE (ws := [fv a b]) (e1 := [fv a b, fv c d]) rfl rfl rfl List.nodup_nil q1 rfl)), seq_nx (expE (e1 := [fv a b, fv c d]) (callE (ws := [fv c d]) (e1 := [fv a b, fv c d]) rfl rfl rfl List.nodup_nil q2 rfl)), seq_nx s3]
    exact retE (callE (ws := [fv a b, fv c d]) rfl rfl rfl List.nodup_nil q3 rfl) fun i z => by cases z
  exact key _ _ n1 n2 hp
theorem fby0 (k : Nat) {a b d : Int} (c1 : Can a b) (c2 : Can 0 d) : prg.den (k + 4) 10 [fv a b, fv 0 d] = .exc ⟨2, []⟩ [fv a b, fv 0 d] := by
  have n1 := needf k c1
  have n2 := needf k c2
  have key : ∀ (D : Den), D 2 [fv a b] = .ok (nv, [fv a b]) → D 2 [fv 0 d] = .ok (nv, [fv 0 d]) → runFn (prg.gx D) f_fraction_by [fv a b, fv 0 d] = .exc ⟨2, []⟩ [fv a b, fv 0 d] := fun D q1 q2 => by
    refine run_exc (env0 := [fv a b, fv 0 d]) (env := [fv a b, fv 0 d]) rfl ?_
    show exS _ (.seq _ (.seq _ (.seq _ _))) _ = _
    have cc : evE (prg.gx D) (.cmp .eq (.idx (.var 1) (.con (.int 0))) (.con (.int 0))) [fv a b, fv 0 d] = .ok (bv true, [fv a b, fv 0 d]) := rfl
    have s3 : exS (prg.gx D) (.iff (.cmp .eq (.idx (.var 1) (.con (.int 0))) (.con (.int 0))) (.seq (.rse 2) .nil) .nil) [fv a b, fv 0 d] = .exc ⟨2, []⟩ [fv a b, fv 0 d] := (iff_b (x := true) rfl cc).trans rfl
    rw [seq_nx (expE (e1 := [fv a b, fv 0 d]) (callE (ws := [fv a b]) (e1 := [fv a b, fv 0 d]) rfl rfl rfl List.nodup_nil q1 rfl)), seq_nx (expE (e1 := [fv a b, fv 0 d]) (callE (ws := [fv 0 d]) (e1 := [fv a b, fv 0 d]) rfl rfl rfl List.nodup_nil q2 rfl))]
    exact seq_exc s3
  exact key _ n1 n2
end K00
end
section
set_option Elab.async false
set_option linter.all false
set_option maxRecDepth 100000
namespace K00
open PF PySem
theorem den_most (k : Nat) (as : List Slot) : prg.den (k + 1) 11 as = runFn (GG k) f_is_most as := rfl
theorem leE {G : Gx} {a b : E} {e e1 e2 : En} {i j : Int} (h1 : evE G a e = .ok (iv i, e1)) (h2 : evE G b e1 = .ok (iv j, e2)) : evE G (.cmp .le a b) e = .ok (bv (decide (i ≤ j)), e2) := by
  rw [evE_cmp, h1, Res.bind_ok]
  show ((evE G b e1).bind _) = _
  rw [h2]
  rfl
theorem most (k : Nat) {a b c d : Int} {z y : Nat} (h1 : Sz z a b) (h2 : Sz y c d) (hz : 0 < z) (hy : 0 < y) (hzy : z + y ≤ 8999) : prg.den (k + 1) 11 [fv a b, fv c d] = .ok (bv (decide (a * d ≤ c * b)), [fv a b, fv c d]) := by
  have m1 := mul_ok h1.1 h2.2 hz hy (by omega)
  have m2 := mul_ok h2.1 h1.2 hy hz (by omega)
  rw [den_most]
  exact run_val (env0 := [fv a b, fv c d]) (env := [fv a b, fv c d]) rfl (retE (leE (mulE (k := 0) (l := 0) rfl rfl m1) (mulE (k := 0) (l := 0) rfl rfl m2)) fun i z => by cases z)
theorem atmost (k : Nat) {a b c d : Int} {z y : Nat} (h1 : Sz z a b) (h2 : Sz y c d) (c1 : Can a b) (c2 : Can c d) (hz : 0 < z) (hy : 0 < y) (hzy : z + y ≤ 8999) : prg.den (k + 4) 12 [fv a b, fv c d] = .ok (bv (decide (a * d ≤ c * b)), [fv a b, fv c d]) := by
  have hp := most (k + 2) h1 h2 hz hy hzy
  have n1 := needf k c1
  have n2 := needf k c2
  have key : ∀ (D : Den) (u : U), D 2 [fv a b] = .ok (nv, [fv a b]) → D 2 [fv c d] = .ok (nv, [fv c d]) → D 11 [fv a b, fv c d] = .ok (.val u, [fv a b, fv c d]) → runFn (prg.gx D) f_at_most [fv a b, fv c d] = .ok (.val u, [fv a b, fv c d]) := fun D u q1 q2 q3 => by
    refine run_val (env0 := [fv a b, fv c d]) (env := [fv a b, fv c d]) rfl ?_
    show exS _ (.seq _ (.seq _ _)) _ = _
    rw [seq_nx (expE (e1 := [fv a b, fv c d]) (callE (ws := [fv a b]) (e1 := [fv a b, fv c d]) rfl rfl rfl List.nodup_nil q1 rfl)), seq_nx (expE (e1 := [fv a b, fv c d]) (callE (ws := [fv c d]) (e1 := [fv a b, fv c d]) rfl rfl rfl List.nodup_nil q2 rfl))]
    exact retE (callE (ws := [fv a b, fv c d]) rfl rfl rfl List.nodup_nil q3 rfl) fun i z => by cases z
  exact key _ _ n1 n2 hp
end K00
end
section
set_option Elab.async false
set_option linter.all false
set_option maxRecDepth 100000
namespace K00
open PF PySem
theorem atI_ok {us : List U} {r : Int} (h0 : 0 ≤ r) (h1 : r < us.length) : ∃ u, L2.atI us r = some u ∧ u ∈ us := by
  have hr : r.toNat < us.length := by omega
  refine ⟨us[r.toNat], ?_, List.getElem_mem _⟩
  unfold L2.atI L2.ixN
  simp [h0, h1, hr]
theorem some_ (k : Nat) (a b : Int) (us : List U) (ha : 0 ≤ a) (hb : 0 ≤ b) (h1 : 0 < us.length) (h2 : us.length < 1073741824) :
    ∃ u a' b', u ∈ us ∧ 0 ≤ a' ∧ 0 ≤ b' ∧ prg.den (k + 2) 26 [cupS a b, .val (.lst us)] = .ok (.val u, [cupS a' b', .val (.lst us)]) := by
  obtain ⟨r, a', b', r0, r1, q1, q2, hr⟩ := roll k a b us.length ha hb (by omega) (by omega)
  obtain ⟨u, e1, e2⟩ := atI_ok r0 r1
  refine ⟨u, a', b', e2, q1, q2, ?_⟩
  have key : ∀ D : Den, D 25 [cupS a b, iv us.length] = .ok (iv r, [cupS a' b', iv us.length]) → runFn (prg.gx D) f_law_some [cupS a b, .val (.lst us)] = .ok (.val u, [cupS a' b', .val (.lst us)]) := fun D hD => by
    refine run_val (env0 := [cupS a b, .val (.lst us)]) (env := [cupS a' b', .val (.lst us)]) rfl (retE ?_ fun i z => by cases z)
    have c1 : evE (prg.gx D) (.call 25 (.cons (.bor 0) (.cons (.blt .len (.cons (.var 1) .nil)) .nil))) [cupS a b, .val (.lst us)] = .ok (iv r, [cupS a' b', .val (.lst us)]) :=
      callE (ws := [.bor 0, iv us.length]) (as := [cupS a b, iv us.length]) (e1 := [cupS a b, .val (.lst us)]) (md := [true, false]) rfl rfl rfl (show [0].Nodup by decide) hD rfl
    have c0 : evE (prg.gx D) (.var 1) [cupS a b, .val (.lst us)] = .ok (.val (.lst us), [cupS a b, .val (.lst us)]) := rfl
    rw [evE_idx, c0, Res.bind_ok]
    show ((evE (prg.gx D) _ [cupS a b, .val (.lst us)]).bind _) = _
    rw [c1, Res.bind_ok]
    show (Res.of (L2.atI us r)).bind _ = _
    rw [e1]
    rfl
  exact key _ hr
end K00
end
section
set_option Elab.async false
set_option linter.all false
set_option maxRecDepth 100000
namespace K00
open PF PySem
theorem evL_ok {G : Gx} {a r : E} {e e1 e2 : En} {w : Slot} {ws : List Slot} (h1 : evE G a e = .ok (w, e1)) (h2 : evL G r e1 = .ok (ws, e2)) : evL G (.cons a r) e = .ok (w :: ws, e2) := cons_ok h1 h2
theorem gtE {G : Gx} {a b : E} {e e1 e2 : En} {i j : Int} (h1 : evE G a e = .ok (iv i, e1)) (h2 : evE G b e1 = .ok (iv j, e2)) : evE G (.cmp .gt a b) e = .ok (bv (decide (j < i)), e2) := by
  rw [evE_cmp, h1, Res.bind_ok]
  show ((evE G b e1).bind _) = _
  rw [h2]
  rfl
/-- a roll within a def: the cup at place 0 -/
theorem rollE {D : Den} {a b m r a' b' : Int} {en : En} (hD : D 25 [cupS a b, iv m] = .ok (iv r, [cupS a' b', iv m])) : evE (prg.gx D) (.call 25 (.cons (.bor 0) (.cons (.con (.int m)) .nil))) (cupS a b :: en) = .ok (iv r, cupS a' b' :: en) :=
  callE (ws := [.bor 0, iv m]) (as := [cupS a b, iv m]) (e1 := cupS a b :: en) (md := [true, false]) rfl rfl rfl (show [0].Nodup by decide) hD rfl
end K00
end
section
set_option Elab.async false
set_option linter.all false
set_option maxRecDepth 100000
namespace K00
open PF PySem
theorem powE {G : Gx} {e : En} {i j : Int} (h : 0 ≤ j ∧ j ≤ 1000000 ∧ i.natAbs < 2 ^ 64) : evE G (.bin .pow (.con (.int i)) (.con (.int j))) e = .ok (iv (i ^ j.toNat), e) := by
  have q : opF .pow (.int i) (.int j) = some (iv (i ^ j.toNat)) := if_pos h
  rw [evE_bin, evE_con, Res.bind_ok]
  show (Res.of (opF .pow (.int i) (.int j))).bind _ = _
  rw [q]
  rfl
theorem setE {G : Gx} {i : Nat} {a : E} {e e1 e2 : En} {u : U} (h : evE G a e = .ok (.val u, e1)) (h2 : put e1 i (.val u) = some e2) : exS G (.set i a) e = .ok (.nx, e2) := setS_ok h rfl h2
theorem lstE {G : Gx} {es : E} {e e1 : En} {ws : List Slot} {us : List U} (h : evL G es e = .ok (ws, e1)) (h2 : frzs ws = some us) (h3 : us.length ≤ sizeLine) : evE G (.lst es) e = .ok (.own (.lst us) false, e1) := by
  rw [evE_lst, h, Res.bind_ok]
  show (Res.of (frzs ws)).bind _ = _
  rw [h2, Res.of_some, Res.bind_ok, if_pos h3]
theorem tupE {G : Gx} {es : E} {e e1 : En} {ws : List Slot} {us : List U} (h : evL G es e = .ok (ws, e1)) (h2 : frzs ws = some us) (h3 : us.length ≤ sizeLine) : evE G (.tup es) e = .ok (.val (.tup us), e1) := by
  rw [evE_tup, h, Res.bind_ok]
  show (Res.of (frzs ws)).bind _ = _
  rw [h2, Res.of_some, Res.bind_ok, if_pos h3]
/-- the list of the sizes -/
theorem farL {G : Gx} {e : En} : evE G (.lst (.cons (.con (.int 4)) (.cons (.con (.int 12)) (.cons (.bin .pow (.con (.int 10)) (.con (.int 6))) (.cons (.bin .pow (.con (.int 10)) (.con (.int 20))) .nil))))) e = .ok (.own (.lst [.int 4, .int 12, .int (10 ^ (6 : Int).toNat), .int (10 ^ (20 : Int).toNat)]) false, e) := by
  have h : evL G (.cons (.con (.int 4)) (.cons (.con (.int 12)) (.cons (.bin .pow (.con (.int 10)) (.con (.int 6))) (.cons (.bin .pow (.con (.int 10)) (.con (.int 20))) .nil)))) e = .ok ([iv 4, iv 12, iv (10 ^ (6 : Int).toNat), iv (10 ^ (20 : Int).toNat)], e) :=
    cons_ok rfl (cons_ok rfl (cons_ok (powE (by decide)) (cons_ok (powE (by decide)) rfl)))
  exact lstE h rfl (show 4 ≤ sizeLine by decide)
theorem far_of {u : U} (h : u ∈ [U.int 4, .int 12, .int (10 ^ (6 : Int).toNat), .int (10 ^ (20 : Int).toNat)]) : ∃ f : Int, u = .int f ∧ 4 ≤ f ∧ f ≤ 100000000000000000000 := by
  simp only [List.mem_cons, List.not_mem_nil, or_false] at h
  rcases h with h | h | h | h
  · exact ⟨_, h, by decide, by decide⟩
  · exact ⟨_, h, by decide, by decide⟩
  · exact ⟨_, h, by decide, by decide⟩
  · exact ⟨_, h, by decide, by decide⟩
end K00
end
section
set_option Elab.async false
set_option linter.all false
set_option maxRecDepth 100000
namespace K00
open PF PySem
def RollD (D : Den) : Prop := ∀ a b m : Int, 0 ≤ a → 0 ≤ b → 0 < m → m < 1073741824 → ∃ r a' b', 0 ≤ r ∧ r < m ∧ 0 ≤ a' ∧ 0 ≤ b' ∧ D 25 [cupS a b, iv m] = .ok (iv r, [cupS a' b', iv m])
theorem rollD (k : Nat) : RollD (prg.den (k + 1)) := fun a b m ha hb hm hm2 => roll k a b m ha hb hm hm2
def SomeD (D : Den) : Prop := ∀ (a b : Int) (us : List U), 0 ≤ a → 0 ≤ b → 0 < us.length → us.length < 1073741824 → ∃ u a' b', u ∈ us ∧ 0 ≤ a' ∧ 0 ≤ b' ∧ D 26 [cupS a b, .val (.lst us)] = .ok (.val u, [cupS a' b', .val (.lst us)])
theorem someD (k : Nat) : SomeD (prg.den (k + 2)) := fun a b us ha hb h1 h2 => some_ k a b us ha hb h1 h2
def topT : E := .ite (.cmp .gt (.call 25 (.cons (.bor 0) (.cons (.con (.int 3)) .nil))) (.con (.int 0))) (.bin .sub (.call 25 (.cons (.bor 0) (.cons (.con (.int 9)) .nil))) (.con (.int 4))) (.bin .mul (.bin .sub (.con (.int 1)) (.bin .mul (.con (.int 2)) (.call 25 (.cons (.bor 0) (.cons (.con (.int 2)) .nil))))) (.bin .add (.var 1) (.call 25 (.cons (.bor 0) (.cons (.con (.int 30)) .nil)))))
theorem mul_small {i j : Int} (h : -(2 ^ 64) < i ∧ i < 2 ^ 64) : mulOk i j = true := by
  unfold mulOk
  rw [decide_eq_true h.1, decide_eq_true h.2]
  simp
theorem topE {D : Den} (hR : RollD D) {a b f : Int} {s : Slot} (ha : 0 ≤ a) (hb : 0 ≤ b) (hf : 4 ≤ f) : ∃ t a' b', t.natAbs ≤ f.natAbs + 30 ∧ 0 ≤ a' ∧ 0 ≤ b' ∧ evE (prg.gx D) topT [cupS a b, iv f, s] = .ok (iv t, [cupS a' b', iv f, s]) := by
  obtain ⟨r1, a1, b1, p1, p2, p3, p4, hr1⟩ := hR a b 3 ha hb (by decide) (by decide)
  have c1 := gtE (rollE (en := [iv f, s]) hr1) (show evE (prg.gx D) (.con (.int 0)) (cupS a1 b1 :: [iv f, s]) = .ok (iv 0, _) from rfl)
  by_cases g : 0 < r1
  · obtain ⟨r2, a2, b2, q1, q2, q3, q4, hr2⟩ := hR a1 b1 9 p3 p4 (by decide) (by decide)
    rw [decide_eq_true g] at c1
    exact ⟨r2 - 4, a2, b2, by omega, q3, q4, (iteT c1).trans (subE' (rollE (en := [iv f, s]) hr2) rfl)⟩
  · obtain ⟨r2, a2, b2, q1, q2, q3, q4, hr2⟩ := hR a1 b1 2 p3 p4 (by decide) (by decide)
    obtain ⟨r3, a3, b3, s1, s2, s3, s4, hr3⟩ := hR a2 b2 30 q3 q4 (by decide) (by decide)
    rw [decide_eq_false g] at c1
    have m1 : mulOk 2 r2 = true := mul_small (by omega)
    have m2 : mulOk (1 - 2 * r2) (f + r3) = true := mul_small (by omega)
    refine ⟨(1 - 2 * r2) * (f + r3), a3, b3, ?_, s3, s4, (iteF c1).trans (mulE (k := 0) (l := 0) (subE' rfl (mulE (k := 0) (l := 0) rfl (rollE (en := [iv f, s]) hr2) m1)) (addE rfl (rollE (en := [iv f, s]) hr3)) m2)⟩
    rw [Int.natAbs_mul]
    have e1 : (1 - 2 * r2).natAbs = 1 := by omega
    rw [e1]
    omega
end K00
end
section
set_option Elab.async false
set_option linter.all false
set_option maxRecDepth 100000
namespace K00
open PF PySem
/-- a fraction -/
structure Fq where
  n : Int
  d : Int
abbrev Fq.u (a : Fq) : U := fr a.n a.d
abbrev Fq.s (a : Fq) : Slot := .val a.u
/-- in lowest terms, of a size -/
def Fq.g (k : Nat) (a : Fq) : Prop := 0 < k ∧ Sz k a.n a.d ∧ Can a.n a.d
def Fq.plus (a b : Fq) : Fq := ⟨cn (a.n * b.d + b.n * a.d) (a.d * b.d), cd (a.n * b.d + b.n * a.d) (a.d * b.d)⟩
def Fq.minus (a b : Fq) : Fq := ⟨cn (a.n * b.d - b.n * a.d) (a.d * b.d), cd (a.n * b.d - b.n * a.d) (a.d * b.d)⟩
def Fq.times (a b : Fq) : Fq := ⟨cn (a.n * b.n) (a.d * b.d), cd (a.n * b.n) (a.d * b.d)⟩
def Fq.over (a b : Fq) : Fq := ⟨cn (a.n * b.d) (a.d * b.n), cd (a.n * b.d) (a.d * b.n)⟩
def Fq.v (a : Fq) : Rat := q a.n a.d
theorem Fq.g.ne {k : Nat} {a : Fq} (h : a.g k) : a.d ≠ 0 := by have := h.2.2.1; omega
theorem Fq.g.mono {k l : Nat} {a : Fq} (h : a.g k) (hk : k ≤ l) : a.g l := ⟨by have := h.1; omega, h.2.1.mono hk, h.2.2⟩
theorem Fq.g.plus {k l : Nat} {a b : Fq} (h : a.g k) (h' : b.g l) : (a.plus b).g (k + l + 1) := ⟨by omega, (h.2.1.plus h'.2.1).c, can_c (Int.mul_ne_zero h.ne h'.ne)⟩
theorem Fq.g.minus {k l : Nat} {a b : Fq} (h : a.g k) (h' : b.g l) : (a.minus b).g (k + l + 1) := ⟨by omega, (h.2.1.minus h'.2.1).c, can_c (Int.mul_ne_zero h.ne h'.ne)⟩
theorem Fq.g.times {k l : Nat} {a b : Fq} (h : a.g k) (h' : b.g l) : (a.times b).g (k + l) := ⟨by have := h.1; omega, (h.2.1.times h'.2.1).c, can_c (Int.mul_ne_zero h.ne h'.ne)⟩
theorem Fq.g.over {k l : Nat} {a b : Fq} (h : a.g k) (h' : b.g l) (z : b.n ≠ 0) : (a.over b).g (k + l) := ⟨by have := h.1; omega, (h.2.1.over h'.2.1).c, can_c (Int.mul_ne_zero h.ne z)⟩
theorem Fq.g.plus_v {k l : Nat} {a b : Fq} (h : a.g k) (h' : b.g l) : (a.plus b).v = a.v + b.v := (q_c (Int.mul_ne_zero h.ne h'.ne)).trans (q_plus h.ne h'.ne)
theorem Fq.g.minus_v {k l : Nat} {a b : Fq} (h : a.g k) (h' : b.g l) : (a.minus b).v = a.v - b.v := (q_c (Int.mul_ne_zero h.ne h'.ne)).trans (q_minus h.ne h'.ne)
theorem Fq.g.times_v {k l : Nat} {a b : Fq} (h : a.g k) (h' : b.g l) : (a.times b).v = a.v * b.v := (q_c (Int.mul_ne_zero h.ne h'.ne)).trans (q_times h.ne h'.ne)
theorem Fq.g.over_v {k l : Nat} {a b : Fq} (h : a.g k) (h' : b.g l) (z : b.n ≠ 0) : (a.over b).v = a.v / b.v := (q_c (Int.mul_ne_zero h.ne z)).trans (q_over h.ne h'.ne z)
theorem Fq.g.eq {k l : Nat} {a b : Fq} (h : a.g k) (h' : b.g l) (e : a.v = b.v) : a = b := by
  obtain ⟨e1, e2⟩ := can_q h.2.2 h'.2.2 e
  cases a; cases b; cases e1; cases e2; rfl
theorem Fq.plus_comm (a b : Fq) : a.plus b = b.plus a := by
  unfold Fq.plus
  rw [Int.add_comm, Int.mul_comm a.d b.d]
theorem Fq.times_comm (a b : Fq) : a.times b = b.times a := by
  unfold Fq.times
  rw [Int.mul_comm a.n, Int.mul_comm a.d b.d]
/-- what the defs of fractions answer -/
def FrD (D : Den) (i : Nat) (f : Fq → Fq → Fq) : Prop := ∀ (a b : Fq) (k l : Nat), a.g k → b.g l → k + l ≤ 2998 → D i [a.s, b.s] = .ok ((f a b).s, [a.s, b.s])
theorem plusD (k : Nat) : FrD (prg.den (k + 2)) 4 Fq.plus := fun a b z y h h' l => plus k h.2.1 h'.2.1 h.ne h'.ne h.1 h'.1 (by omega)
theorem minusD (k : Nat) : FrD (prg.den (k + 2)) 5 Fq.minus := fun a b z y h h' l => minus k h.2.1 h'.2.1 h.ne h'.ne h.1 h'.1 (by omega)
theorem timesD (k : Nat) : FrD (prg.den (k + 2)) 6 Fq.times := fun a b z y h h' l => times k h.2.1 h'.2.1 h.ne h'.ne h.1 h'.1 (by omega)
theorem lplusD (k : Nat) : FrD (prg.den (k + 2)) 30 Fq.plus := fun a b z y h h' l => lplus k h.2.1 h'.2.1 h.ne h'.ne h.1 h'.1 (by omega)
theorem ltimesD (k : Nat) : FrD (prg.den (k + 2)) 31 Fq.times := fun a b z y h h' l => ltimes k h.2.1 h'.2.1 h.ne h'.ne h.1 h'.1 (by omega)
def OverD (D : Den) : Prop := ∀ (a b : Fq) (k l : Nat), a.g k → b.g l → b.n ≠ 0 → k + l ≤ 2998 → D 7 [a.s, b.s] = .ok ((a.over b).s, [a.s, b.s])
theorem overD (k : Nat) : OverD (prg.den (k + 2)) := fun a b z y h h' n l => over k h.2.1 h'.2.1 h.ne h'.ne n h.1 h'.1 (by omega)
/-- a field number -/
structure Fd where
  r : Int
  x : Fq
  y : Fq
abbrev Fd.u (a : Fd) : U := .tup [.int a.r, a.x.u, a.y.u]
abbrev Fd.s (a : Fd) : Slot := .val a.u
def up (i j : Int) : Int := if j > i then j else i
def Fd.plus (a b : Fd) : Fd := ⟨up a.r b.r, a.x.plus b.x, a.y.plus b.y⟩
def Fd.times (a b : Fd) : Fd := ⟨up a.r b.r, (a.x.times b.x).plus (Fq.times ⟨up a.r b.r, 1⟩ (a.y.times b.y)), (a.x.times b.y).plus (a.y.times b.x)⟩
structure Fd.g (k : Nat) (a : Fd) : Prop where
  root : a.r = 1 ∨ a.r = 2 ∨ a.r = 3 ∨ a.r = 5
  x : a.x.g k
  y : a.y.g k
theorem fplus_run {D : Den} (hP : FrD D 4 Fq.plus) {a b : Fd} {k l : Nat} (ha : a.g k) (hb : b.g l) (hk : k + l ≤ 2998) : runFn (prg.gx D) f_field_plus [a.s, b.s] = .ok ((a.plus b).s, [a.s, b.s]) := by
  refine wpDen_eq (run_wp rfl ?_)
  conv => whnf
  refine wpDen_ok (hP a.x b.x k l ha.x hb.x hk) ?_
  conv => whnf
  refine wpDen_ok (hP a.y b.y k l ha.y hb.y hk) ?_
  conv => whnf
  exact ⟨rfl, rfl⟩
end K00
end
section
set_option Elab.async false
set_option linter.all false
set_option maxRecDepth 100000
namespace K00
open PF PySem
/-- values without names, of a depth -/
def plain : Nat → U → Prop
  | _, .non => True
  | _, .bl _ => True
  | _, .int _ => True
  | _, .str s => PyData.strOk s = true
  | k + 1, .tup xs => xs.length ≤ sizeLine ∧ ∀ x ∈ xs, plain k x
  | k + 1, .lst xs => xs.length ≤ sizeLine ∧ ∀ x ∈ xs, plain k x
  | _, _ => False
def sortN : U → Int
  | .non => 0
  | .bl _ => 1
  | .int _ => 2
  | .str _ => 3
  | .tup _ => 4
  | .lst _ => 5
  | _ => 6
theorem sortD (k : Nat) (u : U) (h : plain 100 u) : prg.den (k + 1) 27 [.val u] = .ok (iv (sortN u), [.val u]) := by
  cases u <;> first | rfl | exact h.elim
theorem plain_up : ∀ (k : Nat) (u : U), plain k u → plain (k + 1) u
  | _, .non, _ => trivial
  | _, .bl _, _ => trivial
  | _, .int _, _ => trivial
  | _, .str s, h => by
    cases ‹Nat› <;> exact h
  | k + 1, .tup xs, h => ⟨h.1, fun x hx => plain_up k x (h.2 x hx)⟩
  | k + 1, .lst xs, h => ⟨h.1, fun x hx => plain_up k x (h.2 x hx)⟩
  | 0, .tup _, h => h.elim
  | 0, .lst _, h => h.elim
  | 0, .dic _, h => h.elim
  | 0, .fn _, h => h.elim
  | 0, .scr _, h => h.elim
  | _ + 1, .dic _, h => h.elim
  | _ + 1, .fn _, h => h.elim
  | _ + 1, .scr _, h => h.elim
theorem plain_le {k l : Nat} {u : U} (h : plain k u) (hk : k ≤ l) : plain l u := by
  induction hk with
  | refl => exact h
  | step _ ih => exact plain_up _ _ ih
def SortD (D : Den) (k : Nat) : Prop := ∀ u, plain k u → D 27 [.val u] = .ok (iv (sortN u), [.val u])
def LikeD (D : Den) (k : Nat) : Prop := ∀ u, plain k u → D 28 [.val u, .val u] = .ok (bv true, [.val u, .val u])
theorem zip_self : ∀ (xs : List U) (i : Nat) (x : U), (zipU xs xs)[i]? = some x → ∃ y ∈ xs, x = .tup [y, y]
  | [], i, x, h => by simp [zipU] at h
  | a :: r, 0, x, h => ⟨a, by simp, by simpa [zipU] using h.symm⟩
  | a :: r, i + 1, x, h => by
    obtain ⟨y, h1, h2⟩ := zip_self r i x (by simpa [zipU] using h)
    exact ⟨y, by simp [h1], h2⟩
theorem like_run {D : Den} {k : Nat} (hs : SortD D (k + 1)) (hL : LikeD D k) (u : U) (h : plain (k + 1) u) : runFn (prg.gx D) f_law_like [.val u, .val u] = .ok (bv true, [.val u, .val u]) := by
  have s := hs u h
  cases u with
  | non =>
    refine wpDen_eq (run_wp rfl ?_)
    conv => whnf
    refine wpDen_ok s ?_
    conv => whnf
    refine wpDen_ok s ?_
    conv => whnf
    exact ⟨rfl, rfl⟩
  | bl b =>
    refine wpDen_eq (run_wp rfl ?_)
    conv => whnf
    refine wpDen_ok s ?_
    conv => whnf
    refine wpDen_ok s ?_
    conv => whnf
    refine ⟨?_, rfl⟩
    cases b <;> rfl
  | int i =>
    refine wpDen_eq (run_wp rfl ?_)
    conv => whnf
    refine wpDen_ok s ?_
    conv => whnf
    refine wpDen_ok s ?_
    conv => whnf
    refine ⟨?_, rfl⟩
    simp
  | str x =>
    refine wpDen_eq (run_wp rfl ?_)
    conv => whnf
    refine wpDen_ok s ?_
    conv => whnf
    refine wpDen_ok s ?_
    conv => whnf
    have h : PyData.strOk x = true := by cases k <;> exact h
    have e : cmpF .eq (.str x) (.str x) = some true := by
      show (if _ then _ else _) = _
      have : U.data (.str x) = true := by
        unfold U.data
        rw [U.dep, if_pos h]
        rfl
      rw [this]
      show some (U.eq (.str x) (.str x)) = _
      rw [U.eq]
      simp
    refine wpO_of e ?_
    conv => whnf
    exact ⟨rfl, rfl⟩
  | tup xs =>
    refine wpDen_eq (run_wp (env0 := [.val (.tup xs), .val (.tup xs), .emp, .emp, .emp]) rfl ?_)
    conv => whnf
    refine wpDen_ok s ?_
    conv => whnf
    refine wpDen_ok s ?_
    conv => whnf
    refine wpB_t (by simp) ?_
    conv => whnf
    refine wpComp_inv (fun i acc e => acc = [] ∧ e = [.val (.tup xs), .val (.tup xs), iv 4, .emp, .emp]) ⟨rfl, rfl⟩ ?_ ?_
    · rintro i x acc e hx ⟨rfl, rfl⟩
      obtain ⟨y, hy, rfl⟩ := zip_self xs i x hx
      conv => whnf
      refine wpDen_ok (hL y (h.2 y hy)) ?_
      conv => whnf
      exact ⟨rfl, rfl⟩
    · rintro us e ⟨rfl, rfl⟩
      refine ⟨by decide, ?_⟩
      conv => whnf
      exact ⟨rfl, rfl⟩
  | lst xs =>
    refine wpDen_eq (run_wp (env0 := [.val (.lst xs), .val (.lst xs), .emp, .emp, .emp]) rfl ?_)
    conv => whnf
    refine wpDen_ok s ?_
    conv => whnf
    refine wpDen_ok s ?_
    conv => whnf
    refine wpB_t (by simp) ?_
    conv => whnf
    refine wpComp_inv (fun i acc e => acc = [] ∧ e = [.val (.lst xs), .val (.lst xs), iv 5, .emp, .emp]) ⟨rfl, rfl⟩ ?_ ?_
    · rintro i x acc e hx ⟨rfl, rfl⟩
      obtain ⟨y, hy, rfl⟩ := zip_self xs i x hx
      conv => whnf
      refine wpDen_ok (hL y (h.2 y hy)) ?_
      conv => whnf
      exact ⟨rfl, rfl⟩
    · rintro us e ⟨rfl, rfl⟩
      refine ⟨by decide, ?_⟩
      conv => whnf
      exact ⟨rfl, rfl⟩
  | _ => exact h.elim
theorem like_flat {D : Den} (hs : SortD D 0) (u : U) (h : plain 0 u) : runFn (prg.gx D) f_law_like [.val u, .val u] = .ok (bv true, [.val u, .val u]) := by
  have s := hs u h
  cases u with
  | non =>
    refine wpDen_eq (run_wp rfl ?_)
    conv => whnf
    refine wpDen_ok s ?_
    conv => whnf
    refine wpDen_ok s ?_
    conv => whnf
    exact ⟨rfl, rfl⟩
  | bl b =>
    refine wpDen_eq (run_wp rfl ?_)
    conv => whnf
    refine wpDen_ok s ?_
    conv => whnf
    refine wpDen_ok s ?_
    conv => whnf
    refine ⟨?_, rfl⟩
    cases b <;> rfl
  | int i =>
    refine wpDen_eq (run_wp rfl ?_)
    conv => whnf
    refine wpDen_ok s ?_
    conv => whnf
    refine wpDen_ok s ?_
    conv => whnf
    refine ⟨?_, rfl⟩
    simp
  | str x =>
    refine wpDen_eq (run_wp rfl ?_)
    conv => whnf
    refine wpDen_ok s ?_
    conv => whnf
    refine wpDen_ok s ?_
    conv => whnf
    have h : PyData.strOk x = true := h
    have e : cmpF .eq (.str x) (.str x) = some true := by
      show (if _ then _ else _) = _
      have : U.data (.str x) = true := by
        unfold U.data
        rw [U.dep, if_pos h]
        rfl
      rw [this]
      show some (U.eq (.str x) (.str x)) = _
      rw [U.eq]
      simp
    refine wpO_of e ?_
    conv => whnf
    exact ⟨rfl, rfl⟩
  | _ => exact h.elim
/-- a value is like itself -/
theorem likeD : ∀ (k n : Nat), k ≤ 90 → k ≤ n → LikeD (prg.den (n + 2)) k
  | 0, n, _, _ => fun u h => like_flat (fun u h => sortD n u (plain_le h (by omega))) u h
  | k + 1, n + 1, hk, hn => fun u h => like_run (k := k) (fun u h => sortD (n + 1) u (plain_le h (by omega))) (likeD k n (by omega) (by omega)) u h
end K00
end
section
set_option Elab.async false
set_option linter.all false
set_option maxRecDepth 100000
namespace K00
open PF PySem
/-- the defs of fractions, at one depth -/
structure FrAll (D : Den) : Prop where
  plus : FrD D 4 Fq.plus
  minus : FrD D 5 Fq.minus
  times : FrD D 6 Fq.times
  over : OverD D
theorem frAll (k : Nat) : FrAll (prg.den (k + 2)) := ⟨plusD k, minusD k, timesD k, overD k⟩
theorem Sz.one : Sz 3 1 1 := ⟨by decide, by decide⟩
theorem root_g {r : Int} (h : r = 1 ∨ r = 2 ∨ r = 3 ∨ r = 5) : Fq.g 3 ⟨r, 1⟩ := by
  rcases h with rfl | rfl | rfl | rfl <;> exact ⟨by decide, ⟨by decide, by decide⟩, ⟨by decide, by decide⟩⟩
theorem up_root {r s : Int} (h : r = 1 ∨ r = 2 ∨ r = 3 ∨ r = 5) (h' : s = 1 ∨ s = 2 ∨ s = 3 ∨ s = 5) : up r s = 1 ∨ up r s = 2 ∨ up r s = 3 ∨ up r s = 5 := by
  unfold up; split <;> assumption
theorem ftimes_run {D : Den} (F : FrAll D) {a b : Fd} {k l : Nat} (ha : a.g k) (hb : b.g l) (hk : k + l ≤ 1400) : runFn (prg.gx D) f_field_times [a.s, b.s] = .ok ((a.times b).s, [a.s, b.s]) := by
  have hr := root_g (up_root ha.root hb.root)
  refine wpDen_eq (run_wp (env0 := [a.s, b.s, .emp, .emp]) rfl ?_)
  conv => whnf
  refine wpDen_ok (F.times a.x b.x k l ha.x hb.x (by omega)) ?_
  conv => whnf
  refine wpDen_ok (F.times a.y b.y k l ha.y hb.y (by omega)) ?_
  conv => whnf
  refine wpDen_ok (F.times ⟨up a.r b.r, 1⟩ _ _ _ hr (ha.y.times hb.y) (by omega)) ?_
  conv => whnf
  refine wpDen_ok (F.plus _ _ _ _ (ha.x.times hb.x) (hr.times (ha.y.times hb.y)) (by omega)) ?_
  conv => whnf
  refine wpDen_ok (F.times a.x b.y k l ha.x hb.y (by omega)) ?_
  conv => whnf
  refine wpDen_ok (F.times a.y b.x k l ha.y hb.x (by omega)) ?_
  conv => whnf
  refine wpDen_ok (F.plus _ _ _ _ (ha.x.times hb.y) (ha.y.times hb.x) (by omega)) ?_
  conv => whnf
  exact ⟨rfl, rfl⟩
def Fd.size (a : Fd) : Fq := (a.x.times a.x).minus (Fq.times ⟨a.r, 1⟩ (a.y.times a.y))
def Fd.inv (a : Fd) : Fd := ⟨a.r, a.x.over a.size, (Fq.times ⟨-1, 1⟩ a.y).over a.size⟩
theorem neg_g : Fq.g 1 ⟨-1, 1⟩ := ⟨by decide, ⟨by decide, by decide⟩, ⟨by decide, by decide⟩⟩
theorem Fd.g.size {a : Fd} {k : Nat} (ha : a.g k) : a.size.g (k + k + (3 + (k + k)) + 1) := (ha.x.times ha.x).minus ((root_g ha.root).times (ha.y.times ha.y))
theorem finv_run {D : Den} (F : FrAll D) {a : Fd} {k : Nat} (ha : a.g k) (hs : a.size.n ≠ 0) (hk : k ≤ 200) : runFn (prg.gx D) f_field_inverse [a.s] = .ok (a.inv.s, [a.s]) := by
  have hr := root_g ha.root
  refine wpDen_eq (run_wp (env0 := [a.s, .emp, .emp, .emp, .emp]) rfl ?_)
  conv => whnf
  refine wpDen_ok (F.times a.x a.x k k ha.x ha.x (by omega)) ?_
  conv => whnf
  refine wpDen_ok (F.times a.y a.y k k ha.y ha.y (by omega)) ?_
  conv => whnf
  refine wpDen_ok (F.times ⟨a.r, 1⟩ _ _ _ hr (ha.y.times ha.y) (by omega)) ?_
  conv => whnf
  refine wpDen_ok (F.minus _ _ _ _ (ha.x.times ha.x) (hr.times (ha.y.times ha.y)) (by omega)) ?_
  conv => whnf
  refine wpDen_ok (F.over a.x a.size _ _ ha.x ha.size hs (by omega)) ?_
  conv => whnf
  refine wpDen_ok (F.times ⟨-1, 1⟩ a.y _ _ neg_g ha.y (by omega)) ?_
  conv => whnf
  refine wpDen_ok (F.over _ a.size _ _ (neg_g.times ha.y) ha.size hs (by omega)) ?_
  conv => whnf
  exact ⟨rfl, rfl⟩
theorem lfplus_run {D : Den} (hP : FrD D 30 Fq.plus) {a b : Fd} {k l : Nat} (ha : a.g k) (hb : b.g l) (hk : k + l ≤ 2998) : runFn (prg.gx D) f_law_field_plus [a.s, b.s] = .ok ((a.plus b).s, [a.s, b.s]) := by
  refine wpDen_eq (run_wp (env0 := [a.s, b.s]) rfl ?_)
  conv => whnf
  refine wpB_dec (fun h => ?_) (fun h => ?_)
  · conv => whnf
    refine wpDen_ok (hP a.x b.x k l ha.x hb.x hk) ?_
    conv => whnf
    refine wpDen_ok (hP a.y b.y k l ha.y hb.y hk) ?_
    conv => whnf
    have e : up a.r b.r = a.r := by unfold up; split <;> omega
    refine ⟨?_, rfl⟩
    unfold Fd.plus Fd.s Fd.u
    rw [e]
  · conv => whnf
    refine wpDen_ok (hP a.x b.x k l ha.x hb.x hk) ?_
    conv => whnf
    refine wpDen_ok (hP a.y b.y k l ha.y hb.y hk) ?_
    conv => whnf
    have e : up a.r b.r = b.r := by unfold up; split <;> omega
    refine ⟨?_, rfl⟩
    unfold Fd.plus Fd.s Fd.u
    rw [e]
theorem lftimes_run {D : Den} (hP : FrD D 30 Fq.plus) (hT : FrD D 31 Fq.times) {a b : Fd} {k l : Nat} (ha : a.g k) (hb : b.g l) (hk : k + l ≤ 1400) : runFn (prg.gx D) f_law_field_times [a.s, b.s] = .ok ((a.times b).s, [a.s, b.s]) := by
  have key : ∀ r : Int, up a.r b.r = r → wpS (prg.gx D) (match f_law_field_times.body with | .seq _ r => r | s => s) [a.s, b.s, iv r, .emp] (retW [false, false] [a.s, b.s] fun s' os => s' = (a.times b).s ∧ os = [a.s, b.s]) fun _ _ => False := by
    rintro _ rfl
    have hr := root_g (up_root ha.root hb.root)
    conv => whnf
    refine wpDen_ok (hT a.x b.x k l ha.x hb.x (by omega)) ?_
    conv => whnf
    refine wpDen_ok (hT a.y b.y k l ha.y hb.y (by omega)) ?_
    conv => whnf
    refine wpDen_ok (hT ⟨up a.r b.r, 1⟩ _ _ _ hr (ha.y.times hb.y) (by omega)) ?_
    conv => whnf
    refine wpDen_ok (hP _ _ _ _ (ha.x.times hb.x) (hr.times (ha.y.times hb.y)) (by omega)) ?_
    conv => whnf
    refine wpDen_ok (hT a.x b.y k l ha.x hb.y (by omega)) ?_
    conv => whnf
    refine wpDen_ok (hT a.y b.x k l ha.y hb.x (by omega)) ?_
    conv => whnf
    refine wpDen_ok (hP _ _ _ _ (ha.x.times hb.y) (ha.y.times hb.x) (by omega)) ?_
    conv => whnf
    exact ⟨rfl, rfl⟩
  refine wpDen_eq (run_wp (env0 := [a.s, b.s, .emp, .emp]) rfl ?_)
  conv => whnf
  refine wpB_dec (fun h => ?_) (fun h => ?_)
  · exact key a.r (by unfold up; split <;> omega)
  · exact key b.r (by unfold up; split <;> omega)
end K00
end
section
set_option Elab.async false
set_option linter.all false
set_option maxRecDepth 100000
namespace K00
open PF PySem
/-- a field number that the program lets -/
structure Fd.ok (k : Nat) (a : Fd) : Prop where
  g : a.g k
  one : a.r = 1 → a.y = ⟨0, 1⟩
theorem isf_run (k : Nat) {a : Fq} {l : Nat} (h : a.g l) : prg.den (k + 2) 1 [a.s] = .ok (bv true, [a.s]) := isf k h.2.2
def IsfD (D : Den) : Prop := ∀ (a : Fq) (l : Nat), a.g l → D 1 [a.s] = .ok (bv true, [a.s])
def TofD (D : Den) : Prop := ∀ (us : List U) (lo hi : Int), D 0 [.val (.tup us), iv lo, iv hi] = .ok (bv (decide (lo ≤ us.length ∧ us.length ≤ hi)), [.val (.tup us), iv lo, iv hi])
theorem eqN (n d : Int) : U.eq (fr n d) (fr 0 1) = decide (n = 0 ∧ d = 1) := by
  have h : U.eq (fr n d) (fr 0 1) = (n == 0 && (d == 1 && true)) := rfl
  rw [h]
  by_cases h1 : n = 0 <;> by_cases h2 : d = 1 <;> simp [h1, h2]
theorem isfn_run {D : Den} (hF : IsfD D) (hT : TofD D) {a : Fd} {k : Nat} (h : a.ok k) : runFn (prg.gx D) f_is_field_number [a.s] = .ok (bv true, [a.s]) := by
  obtain ⟨r, x, y⟩ := a
  have hx := h.g.x
  have hy := h.g.y
  have hr := h.g.root
  have h1 := h.one
  clear h
  simp only at hx hy hr h1
  refine wpDen_eq (run_wp (env0 := [Fd.s ⟨r, x, y⟩]) rfl ?_)
  conv => whnf
  refine wpDen_ok (hT [.int r, x.u, y.u] 3 3) ?_
  conv => whnf
  rcases hr with rfl | rfl | rfl | rfl
  · have := h1 rfl
    subst this
    refine wpDen_ok (hF x k hx) ?_
    conv => whnf
    refine wpDen_ok (hF ⟨0, 1⟩ k hy) ?_
    conv => whnf
    exact ⟨rfl, rfl⟩
  · refine wpDen_ok (hF x k hx) ?_
    conv => whnf
    refine wpDen_ok (hF y k hy) ?_
    conv => whnf
    exact ⟨rfl, rfl⟩
  · refine wpDen_ok (hF x k hx) ?_
    conv => whnf
    refine wpDen_ok (hF y k hy) ?_
    conv => whnf
    exact ⟨rfl, rfl⟩
  · refine wpDen_ok (hF x k hx) ?_
    conv => whnf
    refine wpDen_ok (hF y k hy) ?_
    conv => whnf
    exact ⟨rfl, rfl⟩
theorem isfn (k : Nat) {a : Fd} {l : Nat} (h : a.ok l) : prg.den (k + 3) 13 [a.s] = .ok (bv true, [a.s]) := isfn_run (fun a l h => isf_run k h) (fun us lo hi => tof (k + 1) us lo hi) h
theorem needn_run {D : Den} {a : Fd} {k : Nat} (h : D 13 [a.s] = .ok (bv true, [a.s])) : runFn (prg.gx D) f_need_number [a.s] = .ok (nv, [a.s]) := by
  refine wpDen_eq (run_wp (env0 := [a.s]) rfl ?_)
  conv => whnf
  refine wpDen_ok h ?_
  conv => whnf
  exact ⟨rfl, rfl⟩
theorem needn (k : Nat) {a : Fd} {l : Nat} (h : a.ok l) : prg.den (k + 4) 14 [a.s] = .ok (nv, [a.s]) := needn_run (k := l) (isfn k h)
/-- of one root -/
def fits (a b : Fd) : Prop := a.r = 1 ∨ b.r = 1 ∨ a.r = b.r
theorem rob_run {D : Den} {a b : Fd} (h : fits a b) : ∃ r, runFn (prg.gx D) f_root_of_both [a.s, b.s] = .ok (iv r, [a.s, b.s]) := by
  suffices h : wpDen (runFn (prg.gx D) f_root_of_both [a.s, b.s]) (fun s os => ∃ r, s = iv r ∧ os = [a.s, b.s]) (fun _ _ => False) by
    obtain ⟨s, o, h1, r, rfl, rfl⟩ := wpDen_ex h
    exact ⟨r, h1⟩
  refine run_wp (env0 := [a.s, b.s]) rfl ?_
  conv => whnf
  refine wpB_dec (fun h1 => ?_) (fun h1 => ?_)
  · conv => whnf
    refine wpB_td h1 ?_
    exact ⟨_, rfl, rfl⟩
  · conv => whnf
    refine wpB_dec (fun h2 => ?_) (fun h2 => ?_)
    · exact ⟨_, rfl, rfl⟩
    · conv => whnf
      refine wpB_td (by unfold fits at h; omega) ?_
      exact ⟨_, rfl, rfl⟩
theorem needr_run {D : Den} {a b : Fd} (h : ∃ r, D 15 [a.s, b.s] = .ok (iv r, [a.s, b.s])) : ∃ r, runFn (prg.gx D) f_need_root [a.s, b.s] = .ok (iv r, [a.s, b.s]) := by
  obtain ⟨r, h⟩ := h
  refine ⟨r, ?_⟩
  refine wpDen_eq (run_wp (env0 := [a.s, b.s, .emp]) rfl ?_)
  conv => whnf
  refine wpDen_ok h ?_
  conv => whnf
  exact ⟨rfl, rfl⟩
theorem needr (k : Nat) {a b : Fd} (h : fits a b) : ∃ r, prg.den (k + 2) 16 [a.s, b.s] = .ok (iv r, [a.s, b.s]) := needr_run (rob_run (D := prg.den k) h)
theorem isn_run {D : Den} (a : Fd) : runFn (prg.gx D) f_is_nothing [a.s] = .ok (bv (decide ((a.x.n = 0 ∧ a.x.d = 1) ∧ (a.y.n = 0 ∧ a.y.d = 1))), [a.s]) := by
  refine wpDen_eq (run_wp (env0 := [a.s]) rfl ?_)
  conv => whnf
  refine wpB_of (fun h1 => ?_) (fun h1 => ?_)
  · rw [eqN] at h1
    have h1 := of_decide_eq_true h1
    conv => whnf
    refine ⟨?_, rfl⟩
    rw [eqN]
    simp [h1]
  · rw [eqN] at h1
    conv => whnf
    refine ⟨?_, rfl⟩
    rw [eqN, h1]
    have h1 := of_decide_eq_false h1
    simp [h1]
theorem Fq.g.zero {k : Nat} {a : Fq} (h : a.g k) (z : a.n = 0) : a = ⟨0, 1⟩ := by
  obtain ⟨n, d⟩ := a
  simp only at z
  subst z
  have h1 := h.2.2.1
  have h2 := h.2.2.2
  simp at h1 h2
  have : d = 1 := by omega
  rw [this]
structure NumAll (D : Den) : Prop where
  need : ∀ (a : Fd) (l : Nat), a.ok l → D 14 [a.s] = .ok (nv, [a.s])
  root : ∀ (a b : Fd), fits a b → ∃ r, D 16 [a.s, b.s] = .ok (iv r, [a.s, b.s])
  plus : ∀ (a b : Fd) (k l : Nat), a.g k → b.g l → k + l ≤ 1400 → D 17 [a.s, b.s] = .ok ((a.plus b).s, [a.s, b.s])
  times : ∀ (a b : Fd) (k l : Nat), a.g k → b.g l → k + l ≤ 1400 → D 18 [a.s, b.s] = .ok ((a.times b).s, [a.s, b.s])
  isn : ∀ a : Fd, D 19 [a.s] = .ok (bv (decide ((a.x.n = 0 ∧ a.x.d = 1) ∧ (a.y.n = 0 ∧ a.y.d = 1))), [a.s])
  inv : ∀ (a : Fd) (k : Nat), a.g k → a.size.n ≠ 0 → k ≤ 200 → D 20 [a.s] = .ok (a.inv.s, [a.s])
theorem numAll (k : Nat) : NumAll (prg.den (k + 5)) where
  need a l h := needn (k + 1) h
  root a b h := needr (k + 3) h
  plus a b x y ha hb h := fplus_run (D := prg.den (k + 4)) (plusD (k + 2)) ha hb (by omega)
  times a b x y ha hb h := ftimes_run (D := prg.den (k + 4)) (frAll (k + 2)) ha hb h
  isn a := isn_run (D := prg.den (k + 4)) a
  inv a x h hs hk := finv_run (D := prg.den (k + 4)) (frAll (k + 2)) h hs hk
theorem nsum_run {D : Den} (N : NumAll D) {a b : Fd} {k l : Nat} (ha : a.ok k) (hb : b.ok l) (hf : fits a b) (hk : k + l ≤ 1400) : runFn (prg.gx D) f_number_sum [a.s, b.s] = .ok ((a.plus b).s, [a.s, b.s]) := by
  obtain ⟨r, hr⟩ := N.root a b hf
  refine wpDen_eq (run_wp (env0 := [a.s, b.s]) rfl ?_)
  conv => whnf
  refine wpDen_ok (N.need a k ha) ?_
  conv => whnf
  refine wpDen_ok (N.need b l hb) ?_
  conv => whnf
  refine wpDen_ok hr ?_
  conv => whnf
  refine wpDen_ok (N.plus a b k l ha.g hb.g hk) ?_
  conv => whnf
  exact ⟨rfl, rfl⟩
theorem nprod_run {D : Den} (N : NumAll D) {a b : Fd} {k l : Nat} (ha : a.ok k) (hb : b.ok l) (hf : fits a b) (hk : k + l ≤ 1400) : runFn (prg.gx D) f_number_product [a.s, b.s] = .ok ((a.times b).s, [a.s, b.s]) := by
  obtain ⟨r, hr⟩ := N.root a b hf
  refine wpDen_eq (run_wp (env0 := [a.s, b.s]) rfl ?_)
  conv => whnf
  refine wpDen_ok (N.need a k ha) ?_
  conv => whnf
  refine wpDen_ok (N.need b l hb) ?_
  conv => whnf
  refine wpDen_ok hr ?_
  conv => whnf
  refine wpDen_ok (N.times a b k l ha.g hb.g hk) ?_
  conv => whnf
  exact ⟨rfl, rfl⟩
/-- is it 0 -/
def Fd.z (a : Fd) : Prop := a.x.n = 0 ∧ a.y.n = 0
theorem isn_of {D : Den} (N : NumAll D) {a : Fd} {k : Nat} (h : a.g k) : D 19 [a.s] = .ok (bv (decide (a.x.n = 0 ∧ a.y.n = 0)), [a.s]) := by
  rw [N.isn a]
  have e : ((a.x.n = 0 ∧ a.x.d = 1) ∧ (a.y.n = 0 ∧ a.y.d = 1)) ↔ (a.x.n = 0 ∧ a.y.n = 0) := ⟨fun p => ⟨p.1.1, p.2.1⟩, fun p => by
    have h1 := h.x.zero p.1
    have h2 := h.y.zero p.2
    rw [h1, h2]
    decide⟩
  by_cases c : a.x.n = 0 ∧ a.y.n = 0
  · rw [decide_eq_true c, decide_eq_true (e.mpr c)]
  · rw [decide_eq_false c, decide_eq_false (fun q => c (e.mp q))]
theorem inv_g {a : Fd} {k : Nat} (h : a.g k) (hs : a.size.n ≠ 0) (hk : 0 < k) : a.inv.g (1 + k + (k + k + (3 + (k + k)) + 1)) where
  root := h.root
  x := (h.x.over h.size hs).mono (by omega)
  y := (neg_g.times h.y).over h.size hs
theorem nby_run {D : Den} (N : NumAll D) {a b : Fd} {k l : Nat} (ha : a.ok k) (hb : b.ok l) (hf : fits a b) (hz : ¬(b.x.n = 0 ∧ b.y.n = 0)) (hs : b.size.n ≠ 0) (hk : k ≤ 200) (hl : l ≤ 200) : runFn (prg.gx D) f_number_by [a.s, b.s] = .ok ((a.times b.inv).s, [a.s, b.s]) := by
  obtain ⟨r, hr⟩ := N.root a b hf
  have hn := isn_of N hb.g
  rw [decide_eq_false hz] at hn
  refine wpDen_eq (run_wp (env0 := [a.s, b.s]) rfl ?_)
  conv => whnf
  refine wpDen_ok (N.need a k ha) ?_
  conv => whnf
  refine wpDen_ok (N.need b l hb) ?_
  conv => whnf
  refine wpDen_ok hr ?_
  conv => whnf
  refine wpDen_ok hn ?_
  conv => whnf
  refine wpDen_ok (N.inv b l hb.g hs hl) ?_
  conv => whnf
  refine wpDen_ok (N.times a b.inv _ _ ha.g (inv_g hb.g hs hb.g.x.1) (by omega)) ?_
  conv => whnf
  exact ⟨rfl, rfl⟩
theorem nby0_run {D : Den} (N : NumAll D) {a b : Fd} {k l : Nat} (ha : a.ok k) (hb : b.ok l) (hf : fits a b) (hz : b.x.n = 0 ∧ b.y.n = 0) : runFn (prg.gx D) f_number_by [a.s, b.s] = .exc ⟨2, []⟩ [a.s, b.s] := by
  obtain ⟨r, hr⟩ := N.root a b hf
  have hn := isn_of N hb.g
  rw [decide_eq_true hz] at hn
  refine wpDen_xeq (run_wp (env0 := [a.s, b.s]) rfl ?_)
  conv => whnf
  refine wpDen_ok (N.need a k ha) ?_
  conv => whnf
  refine wpDen_ok (N.need b l hb) ?_
  conv => whnf
  refine wpDen_ok hr ?_
  conv => whnf
  refine wpDen_ok hn ?_
  conv => whnf
  exact ⟨rfl, rfl⟩
end K00
end
section
set_option Elab.async false
set_option linter.all false
set_option maxRecDepth 100000
namespace K00
open PF PySem
def LowD (D : Den) : Prop := ∀ (t b : Int) (z : Nat), b ≠ 0 → b.natAbs < 2 ^ z → 0 < z → z ≤ 2999 → D 29 [iv t, iv b] = .ok (fv (cn t b) (cd t b), [iv t, iv b])
theorem lowD (k : Nat) : LowD (prg.den (k + 1)) := fun t b z h1 h2 h3 h4 => llowest k t b h1 h2 h3 h4
def FracD (D : Den) : Prop := ∀ a b : Int, 0 ≤ a → 0 ≤ b → ∃ (f : Fq) (a' b' : Int), f.g 68 ∧ 0 ≤ a' ∧ 0 ≤ b' ∧ D 32 [cupS a b] = .ok (f.s, [cupS a' b'])
theorem bot_of {f r : Int} (hf : 4 ≤ f ∧ f ≤ 100000000000000000000) (hr : 0 ≤ r ∧ r < 7) {u : U} (h : u ∈ [U.int 1, .int 2, .int 3, .int 6, .int (f + r)]) : ∃ c : Int, u = .int c ∧ 0 < c ∧ c ≤ 100000000000000000007 := by
  simp only [List.mem_cons, List.not_mem_nil, or_false] at h
  rcases h with h | h | h | h | h
  · exact ⟨_, h, by decide, by decide⟩
  · exact ⟨_, h, by decide, by decide⟩
  · exact ⟨_, h, by decide, by decide⟩
  · exact ⟨_, h, by decide, by decide⟩
  · exact ⟨_, h, by omega, by omega⟩
theorem g68 {t b : Int} (h1 : t.natAbs ≤ 100000000000000000030) (h2 : 0 < b) (h3 : b ≤ 100000000000000000007) : Fq.g 68 ⟨cn t b, cd t b⟩ :=
  ⟨by decide, Sz.c ⟨by show _ < 295147905179352825856; omega, by show _ < 295147905179352825856; omega⟩, can_c (by omega)⟩
theorem frac_run {D : Den} (hR : RollD D) (hS : SomeD D) (hL : LowD D) {a b : Int} (ha : 0 ≤ a) (hb : 0 ≤ b) : ∃ (f : Fq) (a' b' : Int), f.g 68 ∧ 0 ≤ a' ∧ 0 ≤ b' ∧ runFn (prg.gx D) f_law_fraction [cupS a b] = .ok (f.s, [cupS a' b']) := by
  suffices h : wpDen (runFn (prg.gx D) f_law_fraction [cupS a b]) (fun s os => ∃ (f : Fq) (a' b' : Int), f.g 68 ∧ 0 ≤ a' ∧ 0 ≤ b' ∧ s = f.s ∧ os = [cupS a' b']) (fun _ _ => False) by
    obtain ⟨s, o, h1, f, a', b', h2, h3, h4, rfl, rfl⟩ := wpDen_ex h
    exact ⟨f, a', b', h2, h3, h4, h1⟩
  obtain ⟨u, a1, b1, m1, p1, p2, e1⟩ := hS a b [U.int 4, .int 12, .int (10 ^ (6 : Int).toNat), .int (10 ^ (20 : Int).toNat)] ha hb (by decide) (by decide)
  obtain ⟨f, rfl, f1, f2⟩ := far_of m1
  have tail : ∀ (t x y : Int), 0 ≤ x → 0 ≤ y → t.natAbs ≤ f.natAbs + 30 → satS (prg.gx D) (match f_law_fraction.body with | .seq _ (.seq _ r) => r | s => s) [cupS x y, iv f, iv t] (retW [true] [cupS a b] fun s os => ∃ (f : Fq) (a' b' : Int), f.g 68 ∧ 0 ≤ a' ∧ 0 ≤ b' ∧ s = f.s ∧ os = [cupS a' b']) (fun _ _ => False) := by
    intro t x y ha hb ht
    obtain ⟨r, a1, b1, r1, r2, p1, p2, hr⟩ := hR x y 7 ha hb (by decide) (by decide)
    obtain ⟨u, a2, b2, m2, q1, q2, e2⟩ := hS a1 b1 [U.int 1, .int 2, .int 3, .int 6, .int (f + r)] p1 p2 (by simp) (by simp)
    obtain ⟨c, rfl, c1, c2⟩ := bot_of ⟨f1, f2⟩ ⟨r1, r2⟩ m2
    refine satS_of ?_
    conv => whnf
    refine wpDen_ok hr ?_
    conv => whnf
    refine wpDen_ok e2 ?_
    conv => whnf
    refine wpDen_ok (hL t c 68 (by omega) (by show _ < 295147905179352825856; omega) (by decide) (by decide)) ?_
    conv => whnf
    exact ⟨⟨cn t c, cd t c⟩, a2, b2, g68 (by omega) c1 c2, q1, q2, rfl, rfl⟩
  refine run_sat (env0 := [cupS a b, .emp, .emp]) rfl (satS_seq ?_)
  conv => whnf
  refine ⟨by decide, ?_⟩
  conv => whnf
  refine ⟨by decide, ?_⟩
  conv => whnf
  refine wpDen_ok e1 ?_
  conv => whnf
  refine satS_seq ?_
  conv => whnf
  obtain ⟨r, a2, b2, r1, r2, q1, q2, hr⟩ := hR a1 b1 3 p1 p2 (by decide) (by decide)
  refine wpDen_ok hr ?_
  conv => whnf
  refine wpB_dec (fun h1 => ?_) (fun h1 => ?_)
  · obtain ⟨r2, a3, b3, s1, s2, s3, s4, hr2⟩ := hR a2 b2 9 q1 q2 (by decide) (by decide)
    conv => whnf
    refine wpDen_ok hr2 ?_
    conv => whnf
    exact tail (r2 - 4) a3 b3 s3 s4 (by omega)
  · obtain ⟨r2, a3, b3, s1, s2, s3, s4, hr2⟩ := hR a2 b2 2 q1 q2 (by decide) (by decide)
    obtain ⟨r3, a4, b4, t1, t2, t3, t4, hr3⟩ := hR a3 b3 30 s3 s4 (by decide) (by decide)
    conv => whnf
    refine wpDen_ok hr2 ?_
    conv => whnf
    refine ⟨mul_small (by omega), ?_⟩
    conv => whnf
    refine wpDen_ok hr3 ?_
    conv => whnf
    refine ⟨mul_small (by omega), ?_⟩
    conv => whnf
    refine tail ((1 - 2 * r2) * (f + r3)) a4 b4 t3 t4 ?_
    rw [Int.natAbs_mul]
    have e1 : (1 - 2 * r2).natAbs = 1 := by omega
    rw [e1]
    omega
theorem fracD (k : Nat) : FracD (prg.den (k + 3)) := fun a b ha hb => frac_run (D := prg.den (k + 2)) (rollD (k + 1)) (someD k) (lowD (k + 1)) ha hb
theorem nothing_g : Fq.g 68 ⟨0, 1⟩ := ⟨by decide, ⟨by decide, by decide⟩, ⟨by decide, by decide⟩⟩
theorem field_run {D : Den} (hF : FracD D) {a b r : Int} (ha : 0 ≤ a) (hb : 0 ≤ b) (hr : r = 1 ∨ r = 2 ∨ r = 3 ∨ r = 5) : ∃ (f : Fd) (a' b' : Int), f.ok 68 ∧ f.r = r ∧ 0 ≤ a' ∧ 0 ≤ b' ∧ runFn (prg.gx D) f_law_field [cupS a b, iv r] = .ok (f.s, [cupS a' b', iv r]) := by
  obtain ⟨f, a1, b1, g, p1, p2, e1⟩ := hF a b ha hb
  by_cases c : r > 1
  · obtain ⟨f2, a2, b2, g2, q1, q2, e2⟩ := hF a1 b1 p1 p2
    refine ⟨⟨r, f, f2⟩, a2, b2, ⟨⟨hr, g, g2⟩, fun z => by simp at z; omega⟩, rfl, q1, q2, wpDen_eq (run_wp (env0 := [cupS a b, iv r]) rfl ?_)⟩
    conv => whnf
    refine wpDen_ok e1 ?_
    conv => whnf
    refine wpB_td c ?_
    conv => whnf
    refine wpDen_ok e2 ?_
    conv => whnf
    exact ⟨rfl, rfl⟩
  · refine ⟨⟨r, f, ⟨0, 1⟩⟩, a1, b1, ⟨⟨hr, g, nothing_g⟩, fun _ => rfl⟩, rfl, p1, p2, wpDen_eq (run_wp (env0 := [cupS a b, iv r]) rfl ?_)⟩
    conv => whnf
    refine wpDen_ok e1 ?_
    conv => whnf
    refine wpB_fd c ?_
    conv => whnf
    exact ⟨rfl, rfl⟩
def FieldD (D : Den) : Prop := ∀ a b r : Int, 0 ≤ a → 0 ≤ b → (r = 1 ∨ r = 2 ∨ r = 3 ∨ r = 5) → ∃ (f : Fd) (a' b' : Int), f.ok 68 ∧ f.r = r ∧ 0 ≤ a' ∧ 0 ≤ b' ∧ D 33 [cupS a b, iv r] = .ok (f.s, [cupS a' b', iv r])
theorem fieldD (k : Nat) : FieldD (prg.den (k + 4)) := fun a b r ha hb hr => field_run (D := prg.den (k + 3)) (fracD k) ha hb hr
end K00
end
section
set_option Elab.async false
set_option linter.all false
set_option maxRecDepth 100000
namespace K00
open PF PySem
structure FrPub (D : Den) : Prop where
  sum : FrD D 8 Fq.plus
  prod : FrD D 9 Fq.times
  by_ : ∀ (a b : Fq) (k l : Nat), a.g k → b.g l → b.n ≠ 0 → k + l ≤ 2998 → D 10 [a.s, b.s] = .ok ((a.over b).s, [a.s, b.s])
  by0 : ∀ (a b : Fq) (k l : Nat), a.g k → b.g l → b.n = 0 → D 10 [a.s, b.s] = .exc ⟨2, []⟩ [a.s, b.s]
  most : ∀ (a b : Fq) (k l : Nat), a.g k → b.g l → k + l ≤ 2998 → D 12 [a.s, b.s] = .ok (bv (decide (a.n * b.d ≤ b.n * a.d)), [a.s, b.s])
  isf : IsfD D
  lplus : FrD D 30 Fq.plus
  ltimes : FrD D 31 Fq.times
theorem frPub (k : Nat) : FrPub (prg.den (k + 4)) where
  sum a b x y h h' l := fsum k h.2.1 h'.2.1 h.2.2 h'.2.2 h.1 h'.1 (by omega)
  prod a b x y h h' l := fprod k h.2.1 h'.2.1 h.2.2 h'.2.2 h.1 h'.1 (by omega)
  by_ a b x y h h' n l := fby k h.2.1 h'.2.1 h.2.2 h'.2.2 n h.1 h'.1 (by omega)
  by0 a b x y h h' n := by
    obtain ⟨bn, bd⟩ := b
    simp only at n
    subst n
    exact fby0 k h.2.2 h'.2.2
  most a b x y h h' l := atmost k h.2.1 h'.2.1 h.2.2 h'.2.2 h.1 h'.1 (by omega)
  isf a l h := isf (k + 2) h.2.2
  lplus := lplusD (k + 2)
  ltimes := ltimesD (k + 2)
theorem tel_no : prg.tel 0 (some ⟨2, []⟩) = some ⟨#[110, 111]⟩ := by rfl
theorem no_eq : cmpF .eq (.str ⟨#[110, 111]⟩) (.str ⟨#[110, 111]⟩) = some true := by decide +kernel
theorem q_zero {a b : Int} (hb : b ≠ 0) : q a b = 0 ↔ a = 0 := by
  have : q 0 1 = 0 := by unfold q; grind
  rw [← this, q_eq hb (by decide)]
  simp
theorem over_times {a b : Fq} {k l : Nat} (h : a.g k) (h' : b.g l) (z : b.n ≠ 0) : (a.over b).times b = a := by
  refine Fq.g.eq ((h.over h' z).times h') h ?_
  rw [(h.over h' z).times_v h', h.over_v h' z]
  have : b.v ≠ 0 := fun e => z ((q_zero h'.ne).mp e)
  grind
theorem fr_right {D : Den} (P : FrPub D) (F : FracD D) (L : LikeD D 3) {x y : Int} (hx : 0 ≤ x) (hy : 0 ≤ y) : ∃ x' y' : Int, 0 ≤ x' ∧ 0 ≤ y' ∧ runFn (prg.gx D) f_law_fractions_right [cupS x y] = .ok (bv true, [cupS x' y']) := by
  obtain ⟨a, x1, y1, ha, p1, p2, e1⟩ := F x y hx hy
  obtain ⟨b, x2, y2, hb, q1, q2, e2⟩ := F x1 y1 p1 p2
  refine ⟨x2, y2, q1, q2, wpDen_eq (run_wp (env0 := [cupS x y, .emp, .emp, .emp, .emp]) rfl ?_)⟩
  conv => whnf
  refine wpDen_ok e1 ?_
  conv => whnf
  refine wpDen_ok e2 ?_
  conv => whnf
  refine wpDen_ok (P.sum a b _ _ ha hb (by omega)) ?_
  conv => whnf
  refine wpDen_ok (P.prod a b _ _ ha hb (by omega)) ?_
  conv => whnf
  refine wpDen_ok (P.most a b _ _ ha hb (by omega)) ?_
  conv => whnf
  refine wpDen_ok (P.isf a _ ha) ?_
  conv => whnf
  refine wpDen_ok (P.lplus a b _ _ ha hb (by omega)) ?_
  conv => whnf
  refine wpDen_ok (P.ltimes a b _ _ ha hb (by omega)) ?_
  conv => whnf
  refine ⟨mul_ok ha.2.1.1 hb.2.1.2 (by decide) (by decide) (by decide), ?_⟩
  conv => whnf
  refine ⟨mul_ok hb.2.1.1 ha.2.1.2 (by decide) (by decide) (by decide), ?_⟩
  conv => whnf
  refine wpDen_ok (L (.lst [(a.plus b).u, (a.times b).u, .bl (decide (a.n * b.d ≤ b.n * a.d)), .bl true]) ⟨by show 4 ≤ 16777216; decide, by simp [plain, sizeLine]⟩) ?_
  conv => whnf
  refine wpB_dec (fun h => ?_) (fun h => ?_)
  · conv => whnf
    refine wpDen_exc (P.by0 a b _ _ ha hb h) ?_
    conv => whnf
    refine wpO_of no_eq ?_
    conv => whnf
    exact ⟨rfl, rfl⟩
  · conv => whnf
    refine wpDen_ok (P.by_ a b _ _ ha hb h (by omega)) ?_
    conv => whnf
    have hq := ha.over hb h
    refine wpDen_ok (P.isf (a.over b) _ hq) ?_
    conv => whnf
    refine wpDen_ok (P.ltimes _ b _ _ hq hb (by omega)) ?_
    conv => whnf
    rw [over_times ha hb h]
    refine wpDen_ok (L (.lst [.bl true, a.u]) ⟨by show 2 ≤ 16777216; decide, by simp [plain, sizeLine]⟩) ?_
    conv => whnf
    exact ⟨rfl, rfl⟩
end K00
end
section
set_option Elab.async false
set_option linter.all false
set_option maxRecDepth 100000
namespace K00
open PF PySem
/-- the defs of field numbers, at one depth -/
structure FdPub (D : Den) : Prop where
  isf : ∀ (a : Fd) (l : Nat), a.ok l → D 13 [a.s] = .ok (bv true, [a.s])
  sum : ∀ (a b : Fd) (k l : Nat), a.ok k → b.ok l → fits a b → k + l ≤ 1400 → D 21 [a.s, b.s] = .ok ((a.plus b).s, [a.s, b.s])
  prod : ∀ (a b : Fd) (k l : Nat), a.ok k → b.ok l → fits a b → k + l ≤ 1400 → D 22 [a.s, b.s] = .ok ((a.times b).s, [a.s, b.s])
  by_ : ∀ (a b : Fd) (k l : Nat), a.ok k → b.ok l → fits a b → ¬(b.x.n = 0 ∧ b.y.n = 0) → b.size.n ≠ 0 → k ≤ 200 → l ≤ 200 → D 23 [a.s, b.s] = .ok ((a.times b.inv).s, [a.s, b.s])
  by0 : ∀ (a b : Fd) (k l : Nat), a.ok k → b.ok l → fits a b → (b.x.n = 0 ∧ b.y.n = 0) → D 23 [a.s, b.s] = .exc ⟨2, []⟩ [a.s, b.s]
  lplus : ∀ (a b : Fd) (k l : Nat), a.g k → b.g l → k + l ≤ 2998 → D 35 [a.s, b.s] = .ok ((a.plus b).s, [a.s, b.s])
  ltimes : ∀ (a b : Fd) (k l : Nat), a.g k → b.g l → k + l ≤ 1400 → D 34 [a.s, b.s] = .ok ((a.times b).s, [a.s, b.s])
theorem fdPub (k : Nat) : FdPub (prg.den (k + 6)) where
  isf a l h := isfn (k + 3) h
  sum a b x y ha hb hf h := nsum_run (D := prg.den (k + 5)) (numAll k) ha hb hf h
  prod a b x y ha hb hf h := nprod_run (D := prg.den (k + 5)) (numAll k) ha hb hf h
  by_ a b x y ha hb hf hz hs h h' := nby_run (D := prg.den (k + 5)) (numAll k) ha hb hf hz hs h h'
  by0 a b x y ha hb hf hz := nby0_run (D := prg.den (k + 5)) (numAll k) ha hb hf hz
  lplus a b x y ha hb h := lfplus_run (D := prg.den (k + 5)) (lplusD (k + 3)) ha hb h
  ltimes a b x y ha hb h := lftimes_run (D := prg.den (k + 5)) (lplusD (k + 3)) (ltimesD (k + 3)) ha hb h
theorem up_comm (r s : Int) : up r s = up s r := by unfold up; split <;> split <;> omega
theorem Fd.plus_comm (a b : Fd) : a.plus b = b.plus a := by
  unfold Fd.plus
  rw [up_comm, Fq.plus_comm a.x, Fq.plus_comm a.y]
theorem Fd.times_comm (a b : Fd) : a.times b = b.times a := by
  unfold Fd.times
  rw [up_comm, Fq.times_comm a.x b.x, Fq.times_comm a.y b.y, Fq.plus_comm (a.x.times b.y), Fq.times_comm a.x b.y, Fq.times_comm a.y b.x]
theorem one_v : Fq.v ⟨0, 1⟩ = 0 := (q_zero (by decide)).mpr rfl
theorem root_v (r : Int) : Fq.v ⟨r, 1⟩ = (r : Rat) := by unfold Fq.v q; grind
theorem neg_v : Fq.v ⟨-1, 1⟩ = -1 := by rw [root_v]; rfl
theorem size_v {a : Fd} {k : Nat} (h : a.g k) : a.size.v = a.x.v * a.x.v - (a.r : Rat) * (a.y.v * a.y.v) := by
  unfold Fd.size
  rw [(h.x.times h.x).minus_v ((root_g h.root).times (h.y.times h.y)), h.x.times_v h.x, (root_g h.root).times_v (h.y.times h.y), h.y.times_v h.y, root_v]
theorem size_ne {a : Fd} {k : Nat} (h : a.ok k) (hz : ¬(a.x.n = 0 ∧ a.y.n = 0)) : a.size.n ≠ 0 := fun e => hz (by
  have hs := h.g.size
  have z : a.size.v = 0 := (q_zero hs.ne).mpr e
  rw [size_v h.g] at z
  rcases h.g.root with r | r | r | r
  · have hy := h.one r
    rw [hy, one_v] at z
    have : a.x.v = 0 := by grind
    exact ⟨(q_zero h.g.x.ne).mp this, by rw [hy]⟩
  · exact norm_ne (.inl rfl) h.g.x.ne h.g.y.ne (by rw [r] at z; exact z)
  · exact norm_ne (.inr (.inl rfl)) h.g.x.ne h.g.y.ne (by rw [r] at z; exact z)
  · exact norm_ne (.inr (.inr rfl)) h.g.x.ne h.g.y.ne (by rw [r] at z; exact z))
theorem Fd.g.times {a b : Fd} {k l : Nat} (ha : a.g k) (hb : b.g l) : (a.times b).g (2 * (k + l) + 4) where
  root := up_root ha.root hb.root
  x := ((ha.x.times hb.x).plus ((root_g (up_root ha.root hb.root)).times (ha.y.times hb.y))).mono (by omega)
  y := ((ha.x.times hb.y).plus (ha.y.times hb.x)).mono (by omega)
theorem times_x {a b : Fd} {k l : Nat} (ha : a.g k) (hb : b.g l) : (a.times b).x.v = a.x.v * b.x.v + (up a.r b.r : Int) * (a.y.v * b.y.v) := by
  have hr := root_g (up_root ha.root hb.root)
  show ((a.x.times b.x).plus (Fq.times ⟨up a.r b.r, 1⟩ (a.y.times b.y))).v = _
  rw [(ha.x.times hb.x).plus_v (hr.times (ha.y.times hb.y)), ha.x.times_v hb.x, hr.times_v (ha.y.times hb.y), ha.y.times_v hb.y, root_v]
theorem times_y {a b : Fd} {k l : Nat} (ha : a.g k) (hb : b.g l) : (a.times b).y.v = a.x.v * b.y.v + a.y.v * b.x.v := by
  show ((a.x.times b.y).plus (a.y.times b.x)).v = _
  rw [(ha.x.times hb.y).plus_v (ha.y.times hb.x), ha.x.times_v hb.y, ha.y.times_v hb.x]
theorem inv_x {a : Fd} {k : Nat} (h : a.g k) (hs : a.size.n ≠ 0) : a.inv.x.v = a.x.v / a.size.v := h.x.over_v h.size hs
theorem inv_y {a : Fd} {k : Nat} (h : a.g k) (hs : a.size.n ≠ 0) : a.inv.y.v = -1 * a.y.v / a.size.v := by
  show ((Fq.times ⟨-1, 1⟩ a.y).over a.size).v = _
  rw [(neg_g.times h.y).over_v h.size hs, neg_g.times_v h.y, neg_v]
theorem ne_v {a : Fq} {k : Nat} (h : a.g k) (z : a.n ≠ 0) : a.v ≠ 0 := fun e => z ((q_zero h.ne).mp e)
/-- the root that fits y: a part over 1 has none -/
theorem up_mul {a b : Fd} {k l : Nat} (ha : a.ok k) (hb : b.ok l) (hf : fits a b) : (up a.r b.r : Int) * (b.y.v) = ((b.r : Int) : Rat) * b.y.v := by
  by_cases c : b.r = 1
  · rw [hb.one c, one_v]; grind
  · have : up a.r b.r = b.r := by
      unfold fits at hf
      have := hb.g.root
      unfold up; split <;> omega
    rw [this]
theorem back_eq {a b : Fd} {k l : Nat} (ha : a.ok k) (hb : b.ok l) (hf : fits a b) (hs : b.size.n ≠ 0) : (a.times b.inv).times b = ⟨up a.r b.r, a.x, a.y⟩ := by
  have hi := inv_g hb.g hs hb.g.x.1
  have ht := ha.g.times hi
  have hf' := ht.times hb.g
  have er : up (up a.r b.inv.r) b.r = up a.r b.r := by
    show up (up a.r b.r) b.r = up a.r b.r
    unfold up; split <;> first | omega | rfl | (split <;> omega)
  have er2 : up a.r b.inv.r = up a.r b.r := rfl
  have er3 : up (a.times b.inv).r b.r = up a.r b.r := er
  have ns := ne_v hb.g.size hs
  have um := up_mul ha hb hf
  have X := times_x ht hb.g
  have Y := times_y ht hb.g
  rw [times_x ha.g hi, times_y ha.g hi, inv_x hb.g hs, inv_y hb.g hs, er2] at X Y
  rw [er3] at X
  have sv := size_v hb.g
  have sv : b.size.v = b.x.v * b.x.v - (up a.r b.r : Int) * (b.y.v * b.y.v) := by
    rw [sv]
    have : ((b.r : Int) : Rat) * (b.y.v * b.y.v) = ((up a.r b.r : Int) : Rat) * (b.y.v * b.y.v) := by
      rw [← Rat.mul_assoc, ← Rat.mul_assoc, um]
    rw [this]
  have id := inv_id (x1 := a.x.v) (x2 := a.y.v) sv ns
  have e1 : ((a.times b.inv).times b).x = a.x := Fq.g.eq hf'.x ha.g.x (X.trans id.1)
  have e2 : ((a.times b.inv).times b).y = a.y := Fq.g.eq hf'.y ha.g.y (Y.trans id.2)
  have e0 : ((a.times b.inv).times b).r = up a.r b.r := er3
  generalize (a.times b.inv).times b = w at *
  obtain ⟨w1, w2, w3⟩ := w
  simp only at e0 e1 e2
  rw [e0, e1, e2]
end K00
end
section
set_option Elab.async false
set_option linter.all false
set_option maxRecDepth 100000
namespace K00
open PF PySem
theorem back_ok {a b : Fd} (ha : a.ok 68) (hb : b.ok 68) (hs : b.size.n ≠ 0) : (a.times b.inv).ok 830 where
  g := ha.g.times (inv_g hb.g hs hb.g.x.1)
  one h := by
    have hi := inv_g hb.g hs hb.g.x.1
    have ht := ha.g.times hi
    have h : up a.r b.r = 1 := h
    have h1 := ha.g.root
    have h2 := hb.g.root
    have r1 : a.r = 1 := by unfold up at h; split at h <;> omega
    have r2 : b.r = 1 := by unfold up at h; split at h <;> omega
    refine ht.y.zero ((q_zero ht.y.ne).mp ?_)
    show (a.times b.inv).y.v = 0
    rw [times_y ha.g hi, inv_y hb.g hs, ha.one r1, hb.one r2, one_v]
    grind
def fdRest : S := match f_law_fields_right.body with
  | .seq _ (.seq _ (.seq _ r)) => r
  | s => s
theorem plainFd (k : Nat) (a : Fd) : plain (k + 2) a.u := ⟨by show 3 ≤ 16777216; decide, by simp [plain, sizeLine]⟩
theorem fd_tail {D : Den} (P : FdPub D) (L : LikeD D 4) {x y x0 y0 r : Int} (hx : 0 ≤ x) (hy : 0 ≤ y) {a b : Fd} (ha : a.ok 68) (hb : b.ok 68) (hf : fits a b) (hf' : fits b a) : satS (prg.gx D) fdRest [cupS x y, iv r, a.s, b.s, .emp, .emp, .emp] (retW [true] [cupS x0 y0] fun s os => ∃ x' y' : Int, 0 ≤ x' ∧ 0 ≤ y' ∧ s = bv true ∧ os = [cupS x' y']) (fun _ _ => False) := by
  refine satS_of ?_
  conv => whnf
  refine wpDen_ok (P.isf a _ ha) ?_
  conv => whnf
  refine wpDen_ok (P.sum a b _ _ ha hb hf (by omega)) ?_
  conv => whnf
  refine wpDen_ok (P.sum b a _ _ hb ha hf' (by omega)) ?_
  conv => whnf
  refine wpDen_ok (P.prod a b _ _ ha hb hf (by omega)) ?_
  conv => whnf
  refine wpDen_ok (P.prod b a _ _ hb ha hf' (by omega)) ?_
  conv => whnf
  refine wpDen_ok (P.lplus a b _ _ ha.g hb.g (by omega)) ?_
  conv => whnf
  refine wpDen_ok (P.lplus a b _ _ ha.g hb.g (by omega)) ?_
  conv => whnf
  refine wpDen_ok (P.ltimes a b _ _ ha.g hb.g (by omega)) ?_
  conv => whnf
  refine wpDen_ok (P.ltimes a b _ _ ha.g hb.g (by omega)) ?_
  conv => whnf
  rw [Fd.plus_comm b a, Fd.times_comm b a]
  refine wpDen_ok (L (.lst [.bl true, (a.plus b).u, (a.plus b).u, (a.times b).u, (a.times b).u]) ⟨by show 5 ≤ 16777216; decide, by
    intro z hz
    simp only [List.mem_cons, List.not_mem_nil, or_false] at hz
    rcases hz with rfl | rfl | rfl | rfl | rfl
    · trivial
    · exact plainFd 1 _
    · exact plainFd 1 _
    · exact plainFd 1 _
    · exact plainFd 1 _⟩) ?_
  conv => whnf
  refine wpB_dec (fun h1 => ?_) (fun h1 => ?_)
  · conv => whnf
    refine wpB_dec (fun h2 => ?_) (fun h2 => ?_)
    · conv => whnf
      refine wpDen_exc (P.by0 a b _ _ ha hb hf ⟨h1, h2⟩) ?_
      conv => whnf
      refine wpO_of no_eq ?_
      conv => whnf
      exact ⟨x, y, hx, hy, rfl, rfl⟩
    · conv => whnf
      have hz : ¬(b.x.n = 0 ∧ b.y.n = 0) := fun q => h2 q.2
      have hs := size_ne hb hz
      refine wpDen_ok (P.by_ a b _ _ ha hb hf hz hs (by omega) (by omega)) ?_
      conv => whnf
      have hk := back_ok ha hb hs
      have be := back_eq ha hb hf hs
      refine wpB_dec (fun h3 => ?_) (fun h3 => ?_)
      · conv => whnf
        refine wpDen_ok (P.isf _ _ hk) ?_
        conv => whnf
        refine wpDen_ok (P.ltimes _ b _ _ hk.g hb.g (by omega)) ?_
        conv => whnf
        rw [be, show up a.r b.r = a.r by unfold up; split <;> omega]
        refine wpDen_ok (L (.lst [.bl true, Fd.u ⟨a.r, a.x, a.y⟩]) ⟨by show 2 ≤ 16777216; decide, by
          intro z hz
          simp only [List.mem_cons, List.not_mem_nil, or_false] at hz
          rcases hz with rfl | rfl
          · trivial
          · exact plainFd 1 _⟩) ?_
        conv => whnf
        exact ⟨x, y, hx, hy, rfl, rfl⟩
      · conv => whnf
        refine wpDen_ok (P.isf _ _ hk) ?_
        conv => whnf
        refine wpDen_ok (P.ltimes _ b _ _ hk.g hb.g (by omega)) ?_
        conv => whnf
        rw [be, show up a.r b.r = b.r by unfold up; split <;> omega]
        refine wpDen_ok (L (.lst [.bl true, Fd.u ⟨b.r, a.x, a.y⟩]) ⟨by show 2 ≤ 16777216; decide, by
          intro z hz
          simp only [List.mem_cons, List.not_mem_nil, or_false] at hz
          rcases hz with rfl | rfl
          · trivial
          · exact plainFd 1 _⟩) ?_
        conv => whnf
        exact ⟨x, y, hx, hy, rfl, rfl⟩
  · conv => whnf
    refine wpB_fd h1 ?_
    conv => whnf
    have hz : ¬(b.x.n = 0 ∧ b.y.n = 0) := fun q => h1 q.1
    have hs := size_ne hb hz
    refine wpDen_ok (P.by_ a b _ _ ha hb hf hz hs (by omega) (by omega)) ?_
    conv => whnf
    have hk := back_ok ha hb hs
    have be := back_eq ha hb hf hs
    refine wpB_dec (fun h3 => ?_) (fun h3 => ?_)
    · conv => whnf
      refine wpDen_ok (P.isf _ _ hk) ?_
      conv => whnf
      refine wpDen_ok (P.ltimes _ b _ _ hk.g hb.g (by omega)) ?_
      conv => whnf
      rw [be, show up a.r b.r = a.r by unfold up; split <;> omega]
      refine wpDen_ok (L (.lst [.bl true, Fd.u ⟨a.r, a.x, a.y⟩]) ⟨by show 2 ≤ 16777216; decide, by
        intro z hz
        simp only [List.mem_cons, List.not_mem_nil, or_false] at hz
        rcases hz with rfl | rfl
        · trivial
        · exact plainFd 1 _⟩) ?_
      conv => whnf
      exact ⟨x, y, hx, hy, rfl, rfl⟩
    · conv => whnf
      refine wpDen_ok (P.isf _ _ hk) ?_
      conv => whnf
      refine wpDen_ok (P.ltimes _ b _ _ hk.g hb.g (by omega)) ?_
      conv => whnf
      rw [be, show up a.r b.r = b.r by unfold up; split <;> omega]
      refine wpDen_ok (L (.lst [.bl true, Fd.u ⟨b.r, a.x, a.y⟩]) ⟨by show 2 ≤ 16777216; decide, by
        intro z hz
        simp only [List.mem_cons, List.not_mem_nil, or_false] at hz
        rcases hz with rfl | rfl
        · trivial
        · exact plainFd 1 _⟩) ?_
      conv => whnf
      exact ⟨x, y, hx, hy, rfl, rfl⟩
theorem root_of {u : U} (h : u ∈ [U.int 1, .int 2, .int 3, .int 5]) : ∃ r : Int, u = .int r ∧ (r = 1 ∨ r = 2 ∨ r = 3 ∨ r = 5) := by
  simp only [List.mem_cons, List.not_mem_nil, or_false] at h
  rcases h with h | h | h | h
  · exact ⟨_, h, by decide⟩
  · exact ⟨_, h, by decide⟩
  · exact ⟨_, h, by decide⟩
  · exact ⟨_, h, by decide⟩
theorem fd_right {D : Den} (P : FdPub D) (F : FieldD D) (hS : SomeD D) (hR : RollD D) (L : LikeD D 4) {x y : Int} (hx : 0 ≤ x) (hy : 0 ≤ y) : ∃ x' y' : Int, 0 ≤ x' ∧ 0 ≤ y' ∧ runFn (prg.gx D) f_law_fields_right [cupS x y] = .ok (bv true, [cupS x' y']) := by
  suffices h : wpDen (runFn (prg.gx D) f_law_fields_right [cupS x y]) (fun s os => ∃ x' y' : Int, 0 ≤ x' ∧ 0 ≤ y' ∧ s = bv true ∧ os = [cupS x' y']) (fun _ _ => False) by
    obtain ⟨s, o, h1, x', y', h2, h3, rfl, rfl⟩ := wpDen_ex h
    exact ⟨x', y', h2, h3, h1⟩
  obtain ⟨u, x1, y1, m1, p1, p2, e1⟩ := hS x y [.int 1, .int 2, .int 3, .int 5] hx hy (by decide) (by decide)
  obtain ⟨r, rfl, hr⟩ := root_of m1
  obtain ⟨a, x2, y2, ha, ar, q1, q2, e2⟩ := F x1 y1 r p1 p2 hr
  obtain ⟨u, x3, y3, m2, r1, r2, e3⟩ := hS x2 y2 [.int 1, .int r] q1 q2 (by simp) (by simp)
  obtain ⟨r', rfl, hr'⟩ : ∃ r', u = .int r' ∧ (r' = 1 ∨ r' = r) := by
    simp only [List.mem_cons, List.not_mem_nil, or_false] at m2
    rcases m2 with h | h
    · exact ⟨_, h, .inl rfl⟩
    · exact ⟨_, h, .inr rfl⟩
  obtain ⟨b, x4, y4, hb, br, s1, s2, e4⟩ := F x3 y3 r' r1 r2 (by omega)
  obtain ⟨z, x5, y5, z1, z2, t1, t2, e5⟩ := hR x4 y4 2 s1 s2 (by decide) (by decide)
  have hf : fits a b := by unfold fits; omega
  have hf' : fits b a := by unfold fits; omega
  refine run_sat (env0 := [cupS x y, .emp, .emp, .emp, .emp, .emp, .emp]) rfl (satS_seq ?_)
  conv => whnf
  refine wpDen_ok e1 ?_
  conv => whnf
  refine satS_seq ?_
  conv => whnf
  refine wpDen_ok e2 ?_
  conv => whnf
  refine wpDen_ok e3 ?_
  conv => whnf
  refine wpDen_ok e4 ?_
  conv => whnf
  refine satS_seq ?_
  conv => whnf
  refine wpDen_ok e5 ?_
  conv => whnf
  refine wpB_dec (fun h => ?_) (fun h => ?_)
  · conv => whnf
    exact fd_tail P L t1 t2 hb ha hf' hf
  · conv => whnf
    exact fd_tail P L t1 t2 ha hb hf hf'
/-- the start -/
theorem cup (k : Nat) (ns : List Int) (h : ns.length ≤ 63) : ∃ a b, 0 ≤ a ∧ 0 ≤ b ∧ prg.den (k + 1) 24 [.val (.scr (ns.map U.int))] = .ok (.own (.lst [.int a, .int b]) false, [.val (.scr (ns.map U.int))]) := by
  show ∃ a b, 0 ≤ a ∧ 0 ≤ b ∧ runFn (GG k) f_law_cup _ = _
  have h0 : ∃ (n : Int) (r : List U), (ns.map U.int) ++ [U.int 0] = .int n :: r ∧ r.length ≤ 63 := by
    cases ns with
    | nil => exact ⟨0, [], rfl, by simp⟩
    | cons n r => exact ⟨n, r.map U.int ++ [.int 0], rfl, by simp at h ⊢; omega⟩
  obtain ⟨n, r, e, hr⟩ := h0
  have hl : (ns.map U.int).length + 1 ≤ sizeLine := by simp; show _ ≤ 16777216; omega
  have hc : ∀ c : Int, 0 ≤ c → ∃ a b, 0 ≤ a ∧ 0 ≤ b ∧ a = (if 10 ^ 18 ≤ c then c / 293 else 0) ∧ b = (c * 1069 + 91571) % 1048576 := fun c hc => ⟨_, _, by split; exact Int.ediv_nonneg hc (by omega); omega, by omega, rfl, rfl⟩
  suffices h : wpDen (runFn (GG k) f_law_cup [.val (.scr (ns.map U.int))]) (fun s os => ∃ a b, 0 ≤ a ∧ 0 ≤ b ∧ s = .own (.lst [.int a, .int b]) false ∧ os = [.val (.scr (ns.map U.int))]) (fun _ _ => False) by
    obtain ⟨s, o, h1, a, b, h2, h3, rfl, rfl⟩ := wpDen_ex h
    exact ⟨a, b, h2, h3, h1⟩
  refine run_wp (env0 := [.val (.scr (ns.map U.int)), .emp]) rfl ?_
  conv => whnf
  refine ⟨hl, ?_⟩
  have e2 : atU ((ns.map U.int) ++ [U.int 0]) 0 = some (.int n) := by
    rw [e]
    unfold atU L2.atI L2.ixN
    simp
  conv => whnf
  refine wpO_of e2 ?_
  have n0 : 0 ≤ (if n < 0 then -n else n) := by split <;> omega
  conv => whnf
  refine ⟨by decide, ?_⟩
  have m1 : mulOk (if n < 0 then -n else n) 1069 = true := by
    unfold mulOk
    simp
  have fin : ∀ a : Int, 0 ≤ a → ∃ a' b, 0 ≤ a' ∧ 0 ≤ b ∧ Slot.own (.lst [.int a, .int (((if n < 0 then -n else n) * 1069 + 91571) % 1048576)]) false = .own (.lst [.int a', .int b]) false ∧ [Slot.val (.scr (ns.map U.int))] = [.val (.scr (ns.map U.int))] := fun a ha => ⟨a, _, ha, by omega, rfl, rfl⟩
  conv => whnf
  refine wpB_dec (fun h1 => ?_) (fun h1 => ?_)
  · conv => whnf
    refine ⟨by decide, ?_⟩
    conv => whnf
    refine ⟨m1, ?_⟩
    conv => whnf
    refine ⟨by decide, ?_⟩
    exact fin _ (Int.ediv_nonneg n0 (by decide))
  · conv => whnf
    refine ⟨m1, ?_⟩
    conv => whnf
    refine ⟨by decide, ?_⟩
    exact fin _ (by decide)
end K00
end
section
set_option Elab.async false
set_option linter.all false
set_option maxRecDepth 100000
namespace K00
open PF PySem
theorem law_run {D : Den} {x y : Int} {s : U} (hx : 0 ≤ x) (hy : 0 ≤ y) (hc : D 24 [.val s] = .ok (.own (.lst [.int x, .int y]) false, [.val s]))
    (hl : D 38 [cupS x y] = .ok (bv true, [cupS x y]))
    (h1 : ∀ x y : Int, 0 ≤ x → 0 ≤ y → ∃ x' y' : Int, 0 ≤ x' ∧ 0 ≤ y' ∧ D 36 [cupS x y] = .ok (bv true, [cupS x' y']))
    (h2 : ∀ x y : Int, 0 ≤ x → 0 ≤ y → ∃ x' y' : Int, 0 ≤ x' ∧ 0 ≤ y' ∧ D 37 [cupS x y] = .ok (bv true, [cupS x' y'])) : ∃ os, runFn (prg.gx D) f_law [.val s] = .ok (bv true, os) := by
  suffices h : wpDen (runFn (prg.gx D) f_law [.val s]) (fun s os => s = bv true) (fun _ _ => False) by
    obtain ⟨s, o, h1, rfl⟩ := wpDen_ex h
    exact ⟨o, h1⟩
  refine run_wp (env0 := [.val s, .emp, .emp]) rfl ?_
  conv => whnf
  refine wpDen_own hc ?_
  conv => whnf
  refine wpDen_ok hl ?_
  conv => whnf
  refine wpFor_inv (fun _ e => ∃ (x y : Int) (t : Slot), 0 ≤ x ∧ 0 ≤ y ∧ (t = .emp ∨ ∃ u, t = .val u) ∧ e = [.val s, .own (.lst [.int x, .int y]) false, t]) ⟨x, y, .emp, hx, hy, .inl rfl, rfl⟩ ?_ ?_
  · rintro i u e hi ⟨x, y, t, hx, hy, ht, rfl⟩
    obtain ⟨x1, y1, p1, p2, e1⟩ := h1 x y hx hy
    obtain ⟨x2, y2, q1, q2, e2⟩ := h2 x1 y1 p1 p2
    have go : wpS (prg.gx D) (.seq (.iff (.or (.not (.call 36 (.cons (.bor 1) .nil))) (.not (.call 37 (.cons (.bor 1) .nil)))) (.seq (.ret (.con (.bl false))) .nil) .nil) .nil) [.val s, .own (.lst [.int x, .int y]) false, .val u] (stepW (fun e => ∃ (x y : Int) (t : Slot), 0 ≤ x ∧ 0 ≤ y ∧ (t = .emp ∨ ∃ u, t = .val u) ∧ e = [.val s, .own (.lst [.int x, .int y]) false, t]) fun f env => match f with
        | .nx => wpS (prg.gx D) (.seq (.ret (.con (.bl true))) .nil) env (retW f_law.md [.val s] fun s os => s = bv true) fun _ _ => False
        | f => retW f_law.md [.val s] (fun s os => s = bv true) f env) (fun _ _ => False) := by
      conv => whnf
      refine wpDen_ok e1 ?_
      conv => whnf
      refine wpDen_ok e2 ?_
      conv => whnf
      exact ⟨x2, y2, _, q1, q2, .inr ⟨_, rfl⟩, rfl⟩
    rcases ht with rfl | ⟨v, rfl⟩
    · exact go
    · exact go
  · rintro e ⟨x, y, t, hx, hy, ht, rfl⟩
    conv => whnf
theorem main (ns : List Int) (hl : ns.length ≤ 63) (_ : ∀ z ∈ ns, Builtin.Int.intBits z ≤ 1048576) : ∃ os, prg.den 40 39 [.val (.scr (ns.map U.int))] = .ok (.val (.bl true), os) := by
  obtain ⟨a, b, ha, hb, h⟩ := cup 38 ns hl
  exact law_run (D := prg.den 39) ha hb h (limits a b)
    (fun x y hx hy => fr_right (D := prg.den 38) (frPub 34) (fracD 35) (likeD 3 36 (by decide) (by decide)) hx hy)
    (fun x y hx hy => fd_right (D := prg.den 38) (fdPub 32) (fieldD 34) (someD 36) (rollD 37) (likeD 4 36 (by decide) (by decide)) hx hy)
theorem holds : PySem.Challenge.rw_archesjoined_k00_whole_field_numbers.Holds := holds_of main
end K00
end
theorem PySem.Challenge.cw_archesjoined_k00_whole_field_numbers_holds : PySem.Challenge.rw_archesjoined_k00_whole_field_numbers.Holds :=
  K00.holds
