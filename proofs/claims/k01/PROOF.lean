import PyProof.Rows.All
import HandS.ForMost
import HandS.ForExc
import HandS.CallSlots
import HandS.NoneIn
import HandS.Wide
import HandS.IsInst
import HandS.Deep
import HandS.Zip
import HandS.TupLe
import HandS.TupAny
import KE.DataMinMax
import HandS.SortKw
import HandS.Style
import HandS.EndBits
import HandS.HeadHook1
import KE.KStateDown
import HandS.Head0
import HandS.Head1
import HandS.Head2
import PySem.Challenge.RW_endmeet_k01_parts_and_places
set_option Elab.async false
set_option linter.all false
set_option maxRecDepth 100000
section
set_option Elab.async false
set_option linter.all false
set_option maxRecDepth 100000
set_option maxHeartbeats 4000000
namespace En
open PySem L2

/-! ### data -/
inductive D where
  | non | bl (b : Bool) | int (i : Int) | str (x : Str)
  | tup (ds : List D) | lst (ds : List D) | dic (kvs : List (D × D)) | exc (c : Str) (d : D)
instance : Inhabited D := ⟨.non⟩

mutual
def D.toP : D → PyData
  | .non => .none
  | .bl b => .bool b
  | .int i => .int i
  | .str x => .str x
  | .tup ds => .tuple (D.toPs ds)
  | .lst ds => .list (D.toPs ds)
  | .dic _ => .dict []
  | .exc _ _ => .dict []
def D.toPs : List D → List PyData
  | [] => []
  | d :: ds => D.toP d :: D.toPs ds
end
/-- may be compared -/
def D.eqOk (d : D) : Bool := d.toP.canLay0 && decide (d.toP.depth ≤ 150)
def D.eq (a b : D) : Bool := PyData.eqv a.toP b.toP

/-! ### modes -/
inductive Md where
  | sh | fr | bo | mu (i : Nat)
  deriving DecidableEq
inductive Sm where
  | sh | ow | mu
  deriving DecidableEq
abbrev Val := Md × D
abbrev Env := List (Option (Sm × D))

inductive R (α : Type) where
  | ok (a : α) (env : Env) | exc (x : D) (env : Env) | stuck
inductive CR where
  | ok (v : Val) (fin : Option D) | exc (x : D) | stuck
inductive RS where
  | nx (env : Env) | rt (v : Val) (env : Env) | exc (x : D) (env : Env) | stuck
abbrev Calls := Str → List Val → CR

def R.bind {α β : Type} (m : R α) (f : α → Env → R β) : R β := match m with
  | .ok a env => f a env
  | .exc x env => .exc x env
  | .stuck => .stuck
@[simp] theorem R.bind_ok {α β : Type} (a : α) (env : Env) (f : α → Env → R β) : (R.ok a env).bind f = f a env := rfl
@[simp] theorem R.bind_exc {α β : Type} (x : D) (env : Env) (f : α → Env → R β) : (R.exc x env : R α).bind f = .exc x env := rfl
@[simp] theorem R.bind_stuck {α β : Type} (f : α → Env → R β) : (R.stuck : R α).bind f = .stuck := rfl

/-! ### operators on values -/
inductive Kd where
  | str | tup | lst | dic | int | bl
  deriving DecidableEq
inductive U1 where
  | neg | len | list | tuple | sum | abs | int | all | max0 | isNone | notNone | isK (k : Kd) | lenSet | sortSet | join
  deriving DecidableEq
inductive U2 where
  | add | sub | mul | fdiv | mod | pow | eq | ne | lt | le | gt | ge | inn | nin | idx | max | min | index
  deriving DecidableEq
inductive ItK where
  | seq | rng | rng2 | enum | zip | items | keys | rev | chars
  deriving DecidableEq
inductive Tg where
  | one (i : Nat) | many (is : List Nat)
  deriving DecidableEq

def ints? : List D → Option (List Int)
  | [] => some []
  | .int i :: r => (ints? r).map (i :: ·)
  | _ :: _ => none
def bls? : List D → Option (List Bool)
  | [] => some []
  | .bl i :: r => (bls? r).map (i :: ·)
  | _ :: _ => none
def strs? : List D → Option (List Str)
  | [] => some []
  | .str i :: r => (strs? r).map (i :: ·)
  | _ :: _ => none

def kdOf (k : Kd) (d : D) : Option Bool := match d with
  | .non => some false
  | .str _ => some (k == .str)
  | .tup _ => some (k == .tup)
  | .lst _ => some (k == .lst)
  | .dic _ => some (k == .dic)
  | .int _ => some (k == .int)
  | .bl _ => some (k == .bl || k == .int)
  | .exc _ _ => some false

def maxI (a b : Int) : Int := if b > a then b else a
def minI (a b : Int) : Int := if b < a then b else a

def joinS : List Str → Str
  | [] => ⟨#[]⟩
  | x :: r => x ++ joinS r
def lenAll : List Str → Nat
  | [] => 0
  | x :: r => x.length + lenAll r
def chars (x : Str) : List D := x.cps.toList.map fun c => .str ⟨#[c]⟩

def op1 (o : U1) (d : D) : Option Val := match o with
  | .neg => match d with
    | .int i => some (.sh, .int (-i))
    | _ => none
  | .len => match d with
    | .lst ds => some (.sh, .int ds.length)
    | .tup ds => some (.sh, .int ds.length)
    | .str x => if x.length ≤ sizeLine then some (.sh, .int x.length) else none
    | _ => none
  | .list => match d with
    | .lst ds => some (.fr, .lst ds)
    | .tup ds => some (.fr, .lst ds)
    | _ => none
  | .tuple => match d with
    | .lst ds => some (.sh, .tup ds)
    | .tup ds => some (.sh, .tup ds)
    | _ => none
  | .sum => match d with
    | .lst ds => (ints? ds).map fun ns => (.sh, .int ns.sum)
    | _ => none
  | .abs => match d with
    | .int i => some (.sh, .int (if i < 0 then -i else i))
    | _ => none
  | .int => match d with
    | .int i => some (.sh, .int i)
    | .bl b => some (.sh, .int (if b then 1 else 0))
    | _ => none
  | .all => match d with
    | .lst ds => (bls? ds).map fun bs => (.sh, .bl (bs.all id))
    | _ => none
  | .max0 => match d with
    | .lst ds => (ints? ds).map fun ns => (.sh, .int (match ns with | [] => 0 | m :: r => r.foldl max m))
    | _ => none
  | .isNone => match d with
    | .non => some (.sh, .bl true)
    | _ => some (.sh, .bl false)
  | .notNone => match d with
    | .non => some (.sh, .bl false)
    | _ => some (.sh, .bl true)
  | .isK k => (kdOf k d).map fun b => (.sh, .bl b)
  | .lenSet => none
  | .sortSet => none
  | .join => match d with
    | .lst ds => (strs? ds).bind fun xs => if lenAll xs ≤ 16777216 then some (.sh, .str (joinS xs)) else none
    | _ => none

def mulOk (i j : Int) : Bool := (decide (-(2 ^ 64) < i) && decide (i < 2 ^ 64)) || (decide (-(2 ^ 64) < j) && decide (j < 2 ^ 64)) || decide (i.natAbs.log2 + j.natAbs.log2 < 100000000)
def divOk (j : Int) : Bool := decide (0 < j) && decide (j.natAbs.log2 < 9000)
def powOk (i j : Int) : Bool := decide (0 ≤ j) && decide (j ≤ 1000000) && decide (i.natAbs < 2 ^ 64)
def szOk (n : Nat) : Bool := decide (n ≤ sizeLine)

def cut {α : Type} (xs : List α) (lo hi : Option Int) : List α := (xs.drop (HT.sIx xs.length 0 lo)).take (HT.sIx xs.length xs.length hi - HT.sIx xs.length 0 lo)

def onInts (f : Int → Int → Option Val) (a b : D) : Option Val := match a, b with
  | .int i, .int j => f i j
  | _, _ => none
def opAdd (a b : D) : Option Val := match a, b with
  | .int i, .int j => some (.sh, .int (i + j))
  | .str i, .str j => if szOk (i.length + j.length) then some (.sh, .str (i ++ j)) else none
  | .lst i, .lst j => if szOk (i.length + j.length) then some (.fr, .lst (i ++ j)) else none
  | .tup i, .tup j => if szOk (i.length + j.length) then some (.sh, .tup (i ++ j)) else none
  | _, _ => none
/-- >= of tuples of ints -/
def lexGe : List Int → List Int → Bool
  | [], [] => true
  | [], _ :: _ => false
  | _ :: _, [] => true
  | x :: xs, y :: ys => if x = y then lexGe xs ys else decide (y ≤ x)
def opCmp (fi : Int → Int → Bool) (a b : D) : Option Val := onInts (fun i j => some (.sh, .bl (fi i j))) a b
def opGe (a b : D) : Option Val := match a, b with
  | .int i, .int j => some (.sh, .bl (decide (j ≤ i)))
  | .tup xs, .tup ys => (ints? xs).bind fun is => (ints? ys).map fun js => (.sh, .bl (lexGe is js))
  | _, _ => none
def opIdx (a b : D) : Option Val := match a, b with
  | .lst xs, .int i => (L2.atI xs i).map fun d => (.sh, d)
  | .tup xs, .int i => (L2.atI xs i).map fun d => (.sh, d)
  | .str x, .int i => if szOk x.length then (L2.atI x.cps.toList i).map fun c => (.sh, .str ⟨#[c]⟩) else none
  | _, _ => none

def op2 (o : U2) (a b : D) : Option Val := match o with
  | .add => opAdd a b
  | .sub => onInts (fun i j => some (.sh, .int (i - j))) a b
  | .mul => onInts (fun i j => if mulOk i j then some (.sh, .int (i * j)) else none) a b
  | .fdiv => onInts (fun i j => if divOk j then some (.sh, .int (i / j)) else none) a b
  | .mod => onInts (fun i j => if decide (0 < j) then some (.sh, .int (i % j)) else none) a b
  | .pow => onInts (fun i j => if powOk i j then some (.sh, .int (i ^ j.toNat)) else none) a b
  | .eq => if a.eqOk && b.eqOk then some (.sh, .bl (a.eq b)) else none
  | .ne => if a.eqOk && b.eqOk then some (.sh, .bl (!a.eq b)) else none
  | .lt => opCmp (fun i j => decide (i < j)) a b
  | .le => opCmp (fun i j => decide (i ≤ j)) a b
  | .gt => opCmp (fun i j => decide (j < i)) a b
  | .ge => opGe a b
  | .inn => match b with
    | .lst ds => if a.eqOk && (D.lst ds).eqOk then some (.sh, .bl (ds.any fun z => z.eq a)) else none
    | _ => none
  | .nin => match b with
    | .lst ds => if a.eqOk && (D.lst ds).eqOk then some (.sh, .bl (!ds.any fun z => z.eq a)) else none
    | _ => none
  | .idx => opIdx a b
  | .max => onInts (fun i j => some (.sh, .int (maxI i j))) a b
  | .min => onInts (fun i j => some (.sh, .int (minI i j))) a b
  | .index => none

def opSl (a : D) (lo hi : Option Int) : Option Val := match a with
  | .lst xs => some (.fr, .lst (cut xs lo hi))
  | .tup xs => some (.sh, .tup (cut xs lo hi))
  | .str x => if szOk x.length then some (.sh, .str ⟨(cut x.cps.toList lo hi).toArray⟩) else none
  | _ => none

/-! ### dicts -/
def dget : List (D × D) → D → Option D
  | [], _ => none
  | (k, v) :: r, x => if k.eq x then some v else dget r x
def dput : List (D × D) → D → D → List (D × D)
  | [], x, y => [(x, y)]
  | (k, v) :: r, x, y => if k.eq x then (k, y) :: r else (k, v) :: dput r x y

/-! ### the language -/
inductive E where
  | var (i : Nat) | own (i : Nat) | fz (i : Nat) | mv (i : Nat) | mut (i : Nat)
  | lit (d : D) | gl (x : Str) (d : D)
  | un (o : U1) (a : E) | bin (o : U2) (a b : E) | sl (a lo hi : E) | nix
  | chain (o o' : U2) (a b c : E)
  | and (a b : E) | or (a b : E) | one (a : E) | not (a : E) | ite (c a b : E)
  | nil | cons (a r : E) | tup (as : E) | lst (as : E) | dic0 | dic1 (k v : E)
  | call (f : Str) (as : E)
  | lc (own : List (Str × Nat)) (tg : Tg) (k : ItK) (a b c e : E)
  | get (d k x : E)
  | pop (i : Nat) | popAt (i : Nat) (k : E) | setdef (i : Nat) (k x : E)
inductive S where
  | skip | seq (s t : S)
  | asg (i : Nat) (ow : Bool) (e : E) | asgT (is : List Nat) (e : E) | asgP (i j : Nat) (a b : E)
  | aug (i : Nat) (e : E) | setI (i : Nat) (k e : E) | app (i : Nat) (e : E) | clear (i : Nat)
  | ex (e : E) | ite (c : E) (s t : S) | for (tg : Tg) (k : ItK) (a b : E) (s : S) | wh (n : Nat) (c : E) (s : S)
  | ret (e : E) | retN | never

/-- nothing that stood is changed -/
def E.quiet : E → Bool
  | .var _ | .own _ | .lit _ | .gl _ _ | .nix | .nil | .dic0 => true
  | .fz _ | .mv _ | .mut _ | .pop _ | .popAt _ _ | .setdef _ _ _ => false
  | .un _ a | .one a | .not a | .tup a | .lst a | .call _ a => a.quiet
  | .bin _ a b | .and a b | .or a b | .cons a b | .dic1 a b => a.quiet && b.quiet
  | .sl a b c | .chain _ _ a b c | .ite a b c | .get a b c => a.quiet && b.quiet && c.quiet
  | .lc _ _ _ a b c e => a.quiet && b.quiet && c.quiet && e.quiet

/-! ### the evaluator -/
def getS (env : Env) (i : Nat) : Option (Sm × D) := (env[i]?).join
def setS (env : Env) (i : Nat) (s : Option (Sm × D)) : Env := env.set i s
def isMu (env : Env) (i : Nat) : Bool := match getS env i with
  | some (.mu, _) => true
  | _ => false
def isOw (env : Env) (i : Nat) : Bool := match getS env i with
  | some (.mu, _) => true
  | some (.ow, _) => true
  | _ => false
def ofO (o : Option Val) (env : Env) : R Val := match o with
  | some v => .ok v env
  | none => .stuck
def inp (v : Val) : Bool := match v.1 with
  | .bo => true
  | _ => false
def low (v : Val) : Option D := match v.1 with
  | .sh => some v.2
  | .fr => some v.2
  | _ => none
def rdy (v : Val) : Option D := match v.1 with
  | .mu _ => none
  | _ => some v.2

def lows : List Val → Option (List D)
  | [] => some []
  | v :: r => (low v).bind fun d => (lows r).map fun ds => d :: ds
def muOf : List Val → Option Nat
  | [] => none
  | (.mu i, _) :: _ => some i
  | _ :: r => muOf r
/-- mutable arguments as they stand at the call -/
def refr (env : Env) : List Val → List Val
  | [] => []
  | (.mu i, d) :: r => (.mu i, match getS env i with | some (_, d') => d' | none => d) :: refr env r
  | v :: r => v :: refr env r
def muOk (env : Env) : List Val → Bool
  | [] => true
  | (.mu i, _) :: r => isOw env i && muOk env r
  | _ :: r => muOk env r
def putBack (env : Env) (i : Nat) (d : D) : Env := match getS env i with
  | some (m, _) => setS env i (some (m, d))
  | none => env

def bind1 (i : Nat) (x : D) (env : Env) : Option Env := if isMu env i then none else if i < env.length then some (setS env i (some (.sh, x))) else none
def bindL : List Nat → List D → Env → Option Env
  | [], [], env => some env
  | i :: is, x :: xs, env => (bind1 i x env).bind fun env' => bindL is xs env'
  | _, _, _ => none
def bindTg (t : Tg) (x : D) (env : Env) : Option Env := match t with
  | .one i => bind1 i x env
  | .many is => match x with
    | .tup ds => bindL is ds env
    | _ => none

def enumD : Nat → List D → List D
  | _, [] => []
  | n, x :: r => .tup [.int n, x] :: enumD (n + 1) r
def zipD : List D → List D → List D
  | x :: r, y :: r' => .tup [x, y] :: zipD r r'
  | _, _ => []
def rangeD : Int → Nat → List D
  | _, 0 => []
  | lo, n + 1 => .int lo :: rangeD (lo + 1) n

/-- what is walked -/
def src1 (k : ItK) (d : D) : Option (List D) := match k with
  | .seq => match d with
    | .lst ds => some ds
    | .tup ds => some ds
    | _ => none
  | .rng => match d with
    | .int n => if decide (-(2 ^ 62) ≤ n) && decide (n < 2 ^ 62) then some (rangeD 0 n.toNat) else none
    | _ => none
  | .enum => match d with
    | .lst ds => some (enumD 0 ds)
    | _ => none
  | .chars => match d with
    | .str x => some (chars x)
    | _ => none
  | .rev => match d with
    | .lst ds => some ds.reverse
    | _ => none
  | _ => none
def src2 (k : ItK) (a b : D) : Option (List D) := match k with
  | .rng2 => match a, b with
    | .int m, .int n => if decide (-(2 ^ 62) ≤ m) && decide (m < 2 ^ 62) && decide (-(2 ^ 62) ≤ n) && decide (n < 2 ^ 62) then some (rangeD m (n - m).toNat) else none
    | _, _ => none
  | .zip => match a, b with
    | .lst xs, .lst ys => some (zipD xs ys)
    | .tup xs, .tup ys => some (zipD xs ys)
    | _, _ => none
  | _ => none
def ItK.two : ItK → Bool
  | .rng2 | .zip => true
  | _ => false

/-- the items of what is walked -/
def evI (f g : Env → R Val) (k : ItK) (env : Env) : R (List D) := (f env).bind fun v env => (g env).bind fun w env => match low v, low w with
  | some d, some d' => (match if k.two then src2 k d d' else src1 k d with
    | some xs => .ok xs env
    | none => .stuck)
  | _, _ => .stuck

def wipeE (env : Env) : List Nat → Env
  | [] => env
  | v :: vs => (wipeE env vs).set v none
/-- nothing may be raised here -/
def R.hard {α : Type} (m : R α) : R α := match m with
  | .exc _ _ => .stuck
  | r => r
@[simp] theorem R.hard_ok {α : Type} (a : α) (env : Env) : (R.ok a env).hard = .ok a env := rfl
@[simp] theorem R.hard_stuck {α : Type} : (R.stuck : R α).hard = .stuck := rfl
def lcL (f : Env → R Val) (g : Env → R Val) (tg : Tg) (vs : List Nat) : List D → List D → Env → R (List D)
  | [], acc, env => .ok acc env
  | x :: xs, acc, env => match bindTg tg x env with
    | none => .stuck
    | some env1 => (f env1).hard.bind fun b env2 => match b with
      | (.sh, .bl true) => (g env2).hard.bind fun v env3 => match low v with
        | some d => if szOk (acc.length + 1) && !vs.any (isOw env3) then lcL f g tg vs xs (acc ++ [d]) (wipeE env3 vs) else .stuck
        | none => .stuck
      | (.sh, .bl false) => if !vs.any (isOw env2) then lcL f g tg vs xs acc (wipeE env2 vs) else .stuck
      | _ => .stuck

/-- an end of a slice -/
def evO (f : Env → R Val) (e : E) (env : Env) : R (Option Int) := match e with
  | .nix => .ok none env
  | _ => (f env).bind fun v env => match v with
    | (.sh, .int i) => .ok (some i) env
    | _ => .stuck

mutual
def evE (C : Calls) : E → Env → R Val
  | .var i, env => match getS env i with
    | some (.sh, d) => .ok (.sh, d) env
    | _ => .stuck
  | .own i, env => match getS env i with
    | some (.sh, d) => .ok (.sh, d) env
    | some (_, d) => .ok (.bo, d) env
    | none => .stuck
  | .fz i, env => match getS env i with
    | some (.sh, d) => .ok (.sh, d) env
    | some (.ow, d) => .ok (.sh, d) (setS env i (some (.sh, d)))
    | _ => .stuck
  | .mv i, env => match getS env i with
    | some (.ow, d) => .ok (.fr, d) (setS env i none)
    | _ => .stuck
  | .mut i, env => match getS env i with
    | some (.ow, d) => .ok (.mu i, d) env
    | some (.mu, d) => .ok (.mu i, d) env
    | _ => .stuck
  | .lit d, env => .ok (.sh, d) env
  | .gl _ d, env => .ok (.sh, d) env
  | .un o a, env => (evE C a env).bind fun v env => match rdy v with
    | some d => ofO (op1 o d) env
    | none => .stuck
  | .bin o a b, env => (evE C a env).bind fun v env => (evE C b env).bind fun w env => if inp v && !b.quiet then .stuck else match rdy v, rdy w with
    | some d, some e => ofO (op2 o d e) env
    | _, _ => .stuck
  | .sl a lo hi, env => (evE C a env).bind fun v env => (evO (evE C lo) lo env).bind fun l env => (evO (evE C hi) hi env).bind fun h env =>
    if inp v && !(lo.quiet && hi.quiet) then .stuck else match rdy v with
    | some d => ofO (opSl d l h) env
    | none => .stuck
  | .nix, env => .ok (.sh, .non) env
  | .chain o o' a b c, env => (evE C a env).bind fun u env => (evE C b env).bind fun v env => match u, v with
    | (.sh, du), (.sh, dv) => (match op2 o du dv with
      | some (.sh, .bl true) => (evE C c env).bind fun w env => match w with
        | (.sh, dw) => ofO (op2 o' dv dw) env
        | _ => .stuck
      | some (.sh, .bl false) => .ok (.sh, .bl false) env
      | _ => .stuck)
    | _, _ => .stuck
  | .and a b, env => (evE C a env).bind fun v env => match v with
    | (.sh, .bl true) => evE C b env
    | (.sh, .bl false) => .ok (.sh, .bl false) env
    | _ => .stuck
  | .or a b, env => (evE C a env).bind fun v env => match v with
    | (.sh, .bl true) => .ok (.sh, .bl true) env
    | (.sh, .bl false) => evE C b env
    | _ => .stuck
  | .one a, env => evE C a env
  | .not a, env => (evE C a env).bind fun v env => match v with
    | (.sh, .bl b) => .ok (.sh, .bl (!b)) env
    | _ => .stuck
  | .ite c a b, env => (evE C c env).bind fun v env => match v with
    | (.sh, .bl true) => evE C a env
    | (.sh, .bl false) => evE C b env
    | _ => .stuck
  | .nil, _ => .stuck
  | .cons _ _, _ => .stuck
  | .tup as, env => (evA C as env).bind fun vs env => match lows vs with
    | some ds => if szOk ds.length then .ok (.sh, .tup ds) env else .stuck
    | none => .stuck
  | .lst as, env => (evA C as env).bind fun vs env => match lows vs with
    | some ds => if szOk ds.length then .ok (.fr, .lst ds) env else .stuck
    | none => .stuck
  | .dic0, env => .ok (.fr, .dic []) env
  | .dic1 k v, env => (evE C k env).bind fun a env => (evE C v env).bind fun b env => match a, low b with
    | (.sh, .str x), some d => .ok (.fr, .dic [(.str x, d)]) env
    | _, _ => .stuck
  | .call f as, env => (evA C as env).bind fun vs env => if (as.quiet && (muOf vs).isSome) || !muOk env vs then .stuck else match C f (refr env vs) with
    | .ok v none => match muOf vs with
      | none => .ok v env
      | some _ => .stuck
    | .ok v (some d) => match muOf vs with
      | none => .stuck
      | some i => .ok v (putBack env i d)
    | .exc x => match muOf vs with
      | none => .exc x env
      | some _ => .stuck
    | .stuck => .stuck
  | .lc own tg k a b c e, env => (evI (evE C a) (evE C b) k env).bind fun xs env => if (own.map (·.2)).any (isOw env) then .stuck else
    (lcL (evE C c) (evE C e) tg (own.map (·.2)) xs [] (wipeE env (own.map (·.2)))).bind fun ds env' => .ok (.fr, .lst ds) env'
  | .get d k x, env => (evE C d env).bind fun v env => (evE C k env).bind fun kk env => (evE C x env).bind fun xx env =>
    if inp v && !(k.quiet && x.quiet) then .stuck else match rdy v, kk, low xx with
    | some (.dic kvs), (.sh, .str y), some z => .ok (.sh, (dget kvs (.str y)).getD z) env
    | _, _, _ => .stuck
  | .pop i, env => match getS env i with
    | some (m, .lst ds) => if m == .sh then .stuck else match ds.getLast? with
      | some d => .ok (.sh, d) (setS env i (some (m, .lst ds.dropLast)))
      | none => .stuck
    | _ => .stuck
  | .popAt i k, env => (evE C k env).bind fun v env => match v, getS env i with
    | (.sh, .int j), some (m, .lst ds) => if m == .sh then .stuck else match L2.ixN ds.length j with
      | some n => match ds[n]? with
        | some d => .ok (.sh, d) (setS env i (some (m, .lst (ds.eraseIdx n))))
        | none => .stuck
      | none => .stuck
    | _, _ => .stuck
  | .setdef i k x, env => (evE C k env).bind fun v env => (evE C x env).bind fun w env => match v, low w, getS env i with
    | (.sh, .str y), some d, some (m, .dic kvs) => if m == .sh then .stuck else match dget kvs (.str y) with
      | some z => .ok (.sh, z) env
      | none => if szOk (kvs.length + 1) then .ok (.sh, d) (setS env i (some (m, .dic (dput kvs (.str y) d)))) else .stuck
    | _, _, _ => .stuck
def evA (C : Calls) : E → Env → R (List Val)
  | .nil, env => .ok [] env
  | .cons a r, env => (evE C a env).bind fun v env => (evA C r env).bind fun vs env => if inp v then .stuck else .ok (v :: vs) env
  | _, _ => .stuck
end

def forL (tg : Tg) (f : Env → RS) : List D → Env → RS
  | [], env => .nx env
  | x :: xs, env => match bindTg tg x env with
    | none => .stuck
    | some env1 => match f env1 with
      | .nx env2 => forL tg f xs env2
      | r => r
def whL (c : Env → R Val) (f : Env → RS) : Nat → Env → RS
  | 0, _ => .stuck
  | n + 1, env => match c env with
    | .ok (.sh, .bl true) env1 => (match f env1 with
      | .nx env2 => whL c f n env2
      | r => r)
    | .ok (.sh, .bl false) env1 => .nx env1
    | .exc x env1 => .exc x env1
    | _ => .stuck
def R.toS {α : Type} (m : R α) (f : α → Env → RS) : RS := match m with
  | .ok a env => f a env
  | .exc x env => .exc x env
  | .stuck => .stuck
@[simp] theorem R.toS_ok {α : Type} (a : α) (env : Env) (f : α → Env → RS) : (R.ok a env).toS f = f a env := rfl
@[simp] theorem R.toS_exc {α : Type} (x : D) (env : Env) (f : α → Env → RS) : (R.exc x env : R α).toS f = .exc x env := rfl
@[simp] theorem R.toS_stuck {α : Type} (f : α → Env → RS) : (R.stuck : R α).toS f = .stuck := rfl
def ofE (o : Option Env) : RS := match o with
  | some env => .nx env
  | none => .stuck

def evS (C : Calls) : S → Env → RS
  | .skip, env => .nx env
  | .seq s t, env => match evS C s env with
    | .nx env1 => evS C t env1
    | r => r
  | .asg i ow e, env => (evE C e env).toS fun v env => if isMu env i then .stuck else if env.length ≤ i then .stuck else match ow, v with
    | true, (.fr, d) => .nx (setS env i (some (.ow, d)))
    | false, v => match low v with
      | some d => .nx (setS env i (some (.sh, d)))
      | none => .stuck
    | _, _ => .stuck
  | .asgT is e, env => (evE C e env).toS fun v env => match low v with
    | some (.tup ds) => ofE (bindL is ds env)
    | some (.lst ds) => ofE (bindL is ds env)
    | _ => .stuck
  | .asgP i j a b, env => (evE C a env).toS fun v env => (evE C b env).toS fun w env => match low v, low w with
    | some d, some e => if i == j then .stuck else ofE (bindL [i, j] [d, e] env)
    | _, _ => .stuck
  | .aug i e, env => if (getS env i).isNone then .stuck else (evE C e env).toS fun v env => match getS env i, rdy v with
    | some (.sh, .int a), some (.int b) => .nx (setS env i (some (.sh, .int (a + b))))
    | some (m, .lst xs), some (.lst ys) => if m == .sh then .stuck else if szOk (xs.length + ys.length) then .nx (setS env i (some (m, .lst (xs ++ ys)))) else .stuck
    | _, _ => .stuck
  | .setI i k e, env => (evE C e env).toS fun v env => (evE C k env).toS fun w env => match low v, w, getS env i with
    | some d, (.sh, .int j), some (m, .lst ds) => if m == .sh then .stuck else match L2.ixN ds.length j with
      | some n => .nx (setS env i (some (m, .lst (ds.set n d))))
      | none => .stuck
    | some d, (.sh, .str y), some (m, .dic kvs) => if m == .sh then .stuck else if szOk (kvs.length + 1) then .nx (setS env i (some (m, .dic (dput kvs (.str y) d)))) else .stuck
    | _, _, _ => .stuck
  | .app i e, env => (evE C e env).toS fun v env => match low v, getS env i with
    | some d, some (m, .lst ds) => if m == .sh then .stuck else if szOk (ds.length + 1) then .nx (setS env i (some (m, .lst (ds ++ [d])))) else .stuck
    | _, _ => .stuck
  | .clear i, env => match getS env i with
    | some (m, .lst _) => if m == .sh then .stuck else .nx (setS env i (some (m, .lst [])))
    | _ => .stuck
  | .ex e, env => (evE C e env).toS fun _ env => .nx env
  | .ite c s t, env => (evE C c env).toS fun v env => match v with
    | (.sh, .bl true) => evS C s env
    | (.sh, .bl false) => evS C t env
    | _ => .stuck
  | .for tg k a b s, env => (evI (evE C a) (evE C b) k env).toS fun xs env => forL tg (evS C s) xs env
  | .wh n c s, env => whL (evE C c) (evS C s) n env
  | .ret e, env => (evE C e env).toS fun v env => match low v with
    | some _ => .rt v env
    | none => .stuck
  | .retN, env => .rt (.sh, .non) env
  | .never, _ => .stuck

/-! ### defs -/
structure Fn where
  name : Str
  N : List Str
  pm : List Sm
  body : S
def argS : List Sm → List Val → Option Env
  | [], [] => some []
  | .sh :: ms, v :: vs => (low v).bind fun d => (argS ms vs).map fun r => some (.sh, d) :: r
  | .mu :: ms, (.mu _, d) :: vs => (argS ms vs).map fun r => some (.mu, d) :: r
  | _, _ => none
/-- the mutable parameter's end -/
def finS : List Sm → Env → Option D
  | .mu :: _, some (.mu, d) :: _ => some d
  | _ :: ms, _ :: env => finS ms env
  | _, _ => none
def oneMu : List Sm → Bool
  | [] => true
  | .mu :: ms => !ms.contains .mu
  | _ :: ms => oneMu ms
def runF (C : Calls) (F : Fn) (vs : List Val) : CR := match argS F.pm vs with
  | none => .stuck
  | some env0 => if !oneMu F.pm then .stuck else match evS C F.body (env0 ++ List.replicate (F.N.length - env0.length) none) with
    | .nx env => if F.pm.contains .mu && (finS F.pm env).isNone then .stuck else .ok (.sh, .non) (finS F.pm env)
    | .rt v env => if F.pm.contains .mu && (finS F.pm env).isNone then .stuck else .ok v (finS F.pm env)
    | .exc x _ => if F.pm.contains .mu then .stuck else .exc x
    | .stuck => .stuck
abbrev Tab := List (Str × Fn)
def callN (T : Tab) : Nat → Calls
  | 0 => fun _ _ => .stuck
  | n + 1 => fun f vs => match T.lookup f with
    | some F => runF (callN T n) F vs
    | none => .stuck
end En
end

section
set_option Elab.async false
set_option linter.all false
set_option maxRecDepth 100000
set_option maxHeartbeats 4000000
namespace En
open PySem PySem.Spec L2

/-! ### data in the heap -/
abbrev OS := Addr → Prop
def Ex (H H' : Hp) : Prop := ∀ a o, H a = some o → H' a = some o
theorem Ex.rfl' {H : Hp} : Ex H H := fun _ _ h => h
theorem Ex.trans {H H1 H2 : Hp} (x : Ex H H1) (y : Ex H1 H2) : Ex H H2 := fun a o h => y a o (x a o h)
theorem Ex.new {H : Hp} {p : Addr} {o : HO} (h : H p = none) : Ex H (upd H p o) := fun a u e => by
  rw [upd_ne (ne_of_none e h)]; exact e
def plus (O : OS) (p : Addr) : OS := fun a => O a ∨ a = p

/-- a dict's key as data -/
def kD : Key → D
  | .inl i => .int i
  | .inr x => .str x

mutual
inductive Rp (H : Hp) (O : OS) : V → D → Prop
  | non : Rp H O .non .non
  | bl (b : Bool) : Rp H O (.bl b) (.bl b)
  | int (i : Int) : Rp H O (.int i) (.int i)
  | str (x : Str) : Rp H O (.str x) (.str x)
  | tup {a : Addr} {vs : List V} {ds : List D} : ¬ O a → Rd H a (.tup vs) → Rps H O vs ds → Rp H O (.ref a) (.tup ds)
  | lst {a : Addr} {vs : List V} {ds : List D} : ¬ O a → Rd H a (.lst vs) → Rps H O vs ds → Rp H O (.ref a) (.lst ds)
  | dic {a : Addr} {kv : List (Key × V)} {ds : List (D × D)} : ¬ O a → Rd H a (.dK kv) → Rpk H O kv ds → Rp H O (.ref a) (.dic ds)
inductive Rps (H : Hp) (O : OS) : List V → List D → Prop
  | nil : Rps H O [] []
  | cons {v : V} {vs : List V} {d : D} {ds : List D} : Rp H O v d → Rps H O vs ds → Rps H O (v :: vs) (d :: ds)
inductive Rpk (H : Hp) (O : OS) : List (Key × V) → List (D × D) → Prop
  | nil : Rpk H O [] []
  | cons {k : Key} {v : V} {vs : List (Key × V)} {d : D} {ds : List (D × D)} : Rp H O v d → Rpk H O vs ds → Rpk H O ((k, v) :: vs) ((kD k, d) :: ds)
end

section
variable {H H' : Hp} {O O' : OS}
/-- what holds of data when the heap goes on -/
def Goes1 (H H' : Hp) (O O' : OS) : Prop := (∀ a o, H a = some o → ¬ O a → H' a = some o) ∧ ∀ a, O' a → O a ∨ H a = none
theorem Goes1.rd {a : Addr} {u : HO} (g : Goes1 H H' O O') (n : ¬ O a) (h : Rd H a u) : Rd H' a u ∧ ¬ O' a := by
  rcases h with h | ⟨o, h⟩
  · exact ⟨.inl (g.1 a _ h n), fun z => by rcases g.2 a z with z | z; exact n z; rw [h] at z; cases z⟩
  · exact ⟨.inr ⟨o, g.1 a _ h n⟩, fun z => by rcases g.2 a z with z | z; exact n z; rw [h] at z; cases z⟩
mutual
theorem Rp.go (g : Goes1 H H' O O') : ∀ {v : V} {d : D}, Rp H O v d → Rp H' O' v d
  | _, _, .non => .non
  | _, _, .bl b => .bl b
  | _, _, .int i => .int i
  | _, _, .str x => .str x
  | _, _, .tup n h r => .tup (g.rd n h).2 (g.rd n h).1 (Rps.go g r)
  | _, _, .lst n h r => .lst (g.rd n h).2 (g.rd n h).1 (Rps.go g r)
  | _, _, .dic n h r => .dic (g.rd n h).2 (g.rd n h).1 (Rpk.go g r)
theorem Rps.go (g : Goes1 H H' O O') : ∀ {v : List V} {d : List D}, Rps H O v d → Rps H' O' v d
  | _, _, .nil => .nil
  | _, _, .cons h r => .cons (Rp.go g h) (Rps.go g r)
theorem Rpk.go (g : Goes1 H H' O O') : ∀ {v : List (Key × V)} {d : List (D × D)}, Rpk H O v d → Rpk H' O' v d
  | _, _, .nil => .nil
  | _, _, .cons h r => .cons (Rp.go g h) (Rpk.go g r)
end
theorem Goes1.ex (e : Ex H H') : Goes1 H H' O O := ⟨fun a o h _ => e a o h, fun _ z => .inl z⟩
theorem Goes1.less (s : ∀ a, O' a → O a) : Goes1 H H O O' := ⟨fun _ _ h _ => h, fun a z => .inl (s a z)⟩
theorem Rps.length {vs : List V} {ds : List D} (r : Rps H O vs ds) : vs.length = ds.length := by
  induction vs generalizing ds with
  | nil => cases r; rfl
  | cons v vs ih => cases r with
    | cons _ r => simp only [List.length_cons, ih r]
theorem Rpk.length {vs : List (Key × V)} {ds : List (D × D)} (r : Rpk H O vs ds) : vs.length = ds.length := by
  induction vs generalizing ds with
  | nil => cases r; rfl
  | cons v vs ih => cases r with
    | cons _ r => simp only [List.length_cons, ih r]
theorem Rps.app {vs ws : List V} {ds es : List D} (r : Rps H O vs ds) (s : Rps H O ws es) : Rps H O (vs ++ ws) (ds ++ es) := by
  induction vs generalizing ds with
  | nil => cases r; exact s
  | cons v vs ih => cases r with
    | cons h r => exact .cons h (ih r)
theorem Rps.get {vs : List V} {ds : List D} (r : Rps H O vs ds) : ∀ {i : Nat} {d : D}, ds[i]? = some d → ∃ v, vs[i]? = some v ∧ Rp H O v d := by
  induction vs generalizing ds with
  | nil => cases r; intro i d h; simp at h
  | cons v vs ih => cases r with
    | cons h r =>
      intro i d e
      cases i with
      | zero => simp at e; subst e; exact ⟨v, rfl, h⟩
      | succ i => exact ih r (by simpa using e)
theorem Rps.getV {vs : List V} {ds : List D} (r : Rps H O vs ds) : ∀ {i : Nat} {v : V}, vs[i]? = some v → ∃ d, ds[i]? = some d ∧ Rp H O v d := by
  induction vs generalizing ds with
  | nil => cases r; intro i d h; simp at h
  | cons w vs ih => cases r with
    | cons h r =>
      intro i d e
      cases i with
      | zero => simp at e; subst e; exact ⟨_, rfl, h⟩
      | succ i => exact ih r (by simpa using e)
theorem Rps.drop {vs : List V} {ds : List D} (r : Rps H O vs ds) : ∀ (n : Nat), Rps H O (vs.drop n) (ds.drop n) := by
  induction vs generalizing ds with
  | nil => cases r; intro n; simpa using Rps.nil
  | cons v vs ih => cases r with
    | cons h r =>
      intro n
      cases n with
      | zero => exact .cons h r
      | succ n => exact ih r n
theorem Rps.take {vs : List V} {ds : List D} (r : Rps H O vs ds) : ∀ (n : Nat), Rps H O (vs.take n) (ds.take n) := by
  induction vs generalizing ds with
  | nil => cases r; intro n; simpa using Rps.nil
  | cons v vs ih => cases r with
    | cons h r =>
      intro n
      cases n with
      | zero => exact .nil
      | succ n => exact .cons h (ih r n)
theorem Rps.set {vs : List V} {ds : List D} {w : V} {e : D} (q : Rp H O w e) (r : Rps H O vs ds) : ∀ (n : Nat), Rps H O (vs.set n w) (ds.set n e) := by
  induction vs generalizing ds with
  | nil => cases r; intro n; simpa using Rps.nil
  | cons v vs ih => cases r with
    | cons h r =>
      intro n
      cases n with
      | zero => exact .cons q r
      | succ n => exact .cons h (ih r n)
theorem Rps.erase {vs : List V} {ds : List D} (r : Rps H O vs ds) : ∀ (n : Nat), Rps H O (vs.eraseIdx n) (ds.eraseIdx n) := by
  induction vs generalizing ds with
  | nil => cases r; intro n; simpa using Rps.nil
  | cons v vs ih => cases r with
    | cons h r =>
      intro n
      cases n with
      | zero => exact r
      | succ n => exact .cons h (ih r n)
theorem Rps.dropLast {vs : List V} {ds : List D} (r : Rps H O vs ds) : Rps H O vs.dropLast ds.dropLast := by
  rw [List.dropLast_eq_take, List.dropLast_eq_take, r.length]
  exact r.take _
theorem Rps.rev {vs : List V} {ds : List D} (r : Rps H O vs ds) : Rps H O vs.reverse ds.reverse := by
  induction vs generalizing ds with
  | nil => cases r; simpa using Rps.nil
  | cons v vs ih => cases r with
    | cons h r => simp only [List.reverse_cons]; exact (ih r).app (.cons h .nil)
theorem Rps.cut {vs : List V} {ds : List D} (r : Rps H O vs ds) (lo hi : Option Int) : Rps H O (cutV vs lo hi) (cut ds lo hi) := by
  unfold cutV En.cut
  rw [r.length]
  exact (r.drop _).take _
theorem Rps.at {vs : List V} {ds : List D} (r : Rps H O vs ds) {i : Int} {d : D} (h : atI ds i = some d) : ∃ v, atI vs i = some v ∧ Rp H O v d := by
  unfold atI at h ⊢
  rw [r.length]
  cases e : ixN ds.length i with
  | none => rw [e] at h; cases h
  | some j =>
    rw [e] at h
    obtain ⟨v, hv, q⟩ := r.get (i := j) (d := d) h
    exact ⟨v, hv, q⟩
theorem Rps.ints {vs : List V} {ds : List D} (r : Rps H O vs ds) : ∀ {ns : List Int}, ints? ds = some ns → vs = ns.map V.int := by
  induction vs generalizing ds with
  | nil => cases r; intro ns h; cases h; rfl
  | cons v vs ih => cases r with
    | cons h r =>
      intro ns e
      cases h with
      | int i =>
        simp only [ints?] at e
        obtain ⟨ms, em, en⟩ := Option.map_eq_some_iff.mp e
        subst en
        rw [ih r em]; rfl
      | _ => simp [ints?] at e
theorem Rps.bls {vs : List V} {ds : List D} (r : Rps H O vs ds) : ∀ {ns : List Bool}, bls? ds = some ns → vs = ns.map V.bl := by
  induction vs generalizing ds with
  | nil => cases r; intro ns h; cases h; rfl
  | cons v vs ih => cases r with
    | cons h r =>
      intro ns e
      cases h with
      | bl i =>
        simp only [bls?] at e
        obtain ⟨ms, em, en⟩ := Option.map_eq_some_iff.mp e
        subst en
        rw [ih r em]; rfl
      | _ => simp [bls?] at e
theorem Rps.strs {vs : List V} {ds : List D} (r : Rps H O vs ds) : ∀ {ns : List Str}, strs? ds = some ns → vs = ns.map V.str := by
  induction vs generalizing ds with
  | nil => cases r; intro ns h; cases h; rfl
  | cons v vs ih => cases r with
    | cons h r =>
      intro ns e
      cases h with
      | str i =>
        simp only [strs?] at e
        obtain ⟨ms, em, en⟩ := Option.map_eq_some_iff.mp e
        subst en
        rw [ih r em]; rfl
      | _ => simp [strs?] at e

/-- the value itself may be owned, what it holds is not -/
def RpT (H : Hp) (O : OS) (v : V) : D → Prop
  | .lst ds => ∃ a vs, v = .ref a ∧ Rd H a (.lst vs) ∧ Rps H O vs ds
  | .dic ds => ∃ a kv, v = .ref a ∧ Rd H a (.dK kv) ∧ Rpk H O kv ds
  | d => Rp H O v d
theorem Rp.top {v : V} {d : D} (h : Rp H O v d) : RpT H O v d := by
  cases h with
  | tup n h r => exact Rp.tup n h r
  | lst n h r => exact ⟨_, _, rfl, h, r⟩
  | dic n h r => exact ⟨_, _, rfl, h, r⟩
  | non => exact Rp.non
  | bl b => exact Rp.bl b
  | int i => exact Rp.int i
  | str x => exact Rp.str x
/-- a list, a dict that may be changed -/
def OwnT (H : Hp) (O : OS) (a : Addr) : D → Prop
  | .lst ds => ∃ vs, H a = some (.lst vs) ∧ Rps H O vs ds
  | .dic ds => ∃ kv, H a = some (.dK kv) ∧ Rpk H O kv ds
  | _ => False
theorem OwnT.top {a : Addr} {d : D} (h : OwnT H O a d) : RpT H O (.ref a) d := by
  cases d with
  | lst ds => obtain ⟨vs, h, r⟩ := h; exact ⟨a, vs, rfl, .inl h, r⟩
  | dic ds => obtain ⟨vs, h, r⟩ := h; exact ⟨a, vs, rfl, .inl h, r⟩
  | _ => exact h.elim
theorem OwnT.some {a : Addr} {d : D} (h : OwnT H O a d) : H a ≠ none := by
  cases d with
  | lst ds => obtain ⟨vs, h, r⟩ := h; rw [h]; simp
  | dic ds => obtain ⟨vs, h, r⟩ := h; rw [h]; simp
  | _ => exact h.elim
theorem OwnT.rp {a : Addr} {d : D} (h : OwnT H O a d) (n : ¬ O a) : Rp H O (.ref a) d := by
  cases d with
  | lst ds => obtain ⟨vs, h, r⟩ := h; exact .lst n (.inl h) r
  | dic ds => obtain ⟨vs, h, r⟩ := h; exact .dic n (.inl h) r
  | _ => exact h.elim
theorem OwnT.go {a : Addr} {d : D} (g : Goes1 H H' O O') (k : ∀ o, H a = Option.some o → H' a = Option.some o) (h : OwnT H O a d) : OwnT H' O' a d := by
  cases d with
  | lst ds => obtain ⟨vs, h, r⟩ := h; exact ⟨vs, k _ h, r.go g⟩
  | dic ds => obtain ⟨vs, h, r⟩ := h; exact ⟨vs, k _ h, r.go g⟩
  | _ => exact h.elim
theorem RpT.go {v : V} {d : D} (g : Goes1 H H' O O') (k : ∀ a o, v = .ref a → H a = Option.some o → H' a = Option.some o) (h : RpT H O v d) : RpT H' O' v d := by
  have kr : ∀ a u, v = .ref a → Rd H a u → Rd H' a u := fun a u e r => by
    rcases r with r | ⟨o, r⟩
    · exact .inl (k a _ e r)
    · exact .inr ⟨o, k a _ e r⟩
  cases d with
  | tup ds => exact Rp.go g h
  | lst ds => obtain ⟨a, vs, e, h, r⟩ := h; exact ⟨a, vs, e, kr a _ e h, r.go g⟩
  | dic ds => obtain ⟨a, vs, e, h, r⟩ := h; exact ⟨a, vs, e, kr a _ e h, r.go g⟩
  | non => exact Rp.go g h
  | bl b => exact Rp.go g h
  | int b => exact Rp.go g h
  | str b => exact Rp.go g h
  | exc c b => exact Rp.go g h
end

theorem RpT.tup {H : Hp} {O : OS} {v : V} {ds : List D} (h : RpT H O v (.tup ds)) : ∃ a vs, v = .ref a ∧ ¬ O a ∧ Rd H a (.tup vs) ∧ Rps H O vs ds := by
  cases (show Rp H O v (.tup ds) from h) with
  | tup n h1 r => exact ⟨_, _, rfl, n, h1, r⟩

/-! ### what is written of data: the library's own reading of it -/
section
variable {H : Hp} {O : OS} {K : PySem.W.Frag}
mutual
theorem Rp.dp : ∀ {v : V} {d : D}, Rp H O v d → d.toP.canLay0 = true → Dp K H v d.toP
  | _, _, .non, _ => .non
  | _, _, .bl b, _ => .bl b
  | _, _, .int i, _ => .int i
  | _, _, .str x, _ => .str x
  | _, _, .tup n h r, c => .tup (.inl h) (Rps.dp r (by simpa [D.toP, PyData.canLay0] using c))
  | _, _, .lst n h r, c => .lst (.inl h) (Rps.dp r (by simpa [D.toP, PyData.canLay0] using c))
  | _, _, .dic n h r, c => by simp [D.toP, PyData.canLay0] at c
theorem Rps.dp : ∀ {v : List V} {d : List D}, Rps H O v d → PyData.canLayAll0 (D.toPs d) = true → DpAll K H v (D.toPs d)
  | _, _, .nil, _ => .nil
  | _, _, .cons h r, c => by
    simp only [D.toPs, PyData.canLayAll0, Bool.and_eq_true] at c
    exact .cons (Rp.dp h c.1) (Rps.dp r c.2)
end
theorem RpT.dp {v : V} {d : D} (h : RpT H O v d) (c : d.toP.canLay0 = true) : Dp K H v d.toP := by
  cases d with
  | tup ds => exact Rp.dp h c
  | lst ds => obtain ⟨a, vs, rfl, h, r⟩ := h; exact .lst (.inl h) (Rps.dp r (by simpa [D.toP, PyData.canLay0] using c))
  | dic ds => simp [D.toP, PyData.canLay0] at c
  | exc a b => simp [D.toP, PyData.canLay0] at c
  | non => exact Rp.dp h c
  | bl b => exact Rp.dp h c
  | int b => exact Rp.dp h c
  | str b => exact Rp.dp h c
end
end En
end

section
set_option Elab.async false
set_option linter.all false
set_option maxRecDepth 100000
set_option maxHeartbeats 4000000
namespace En
open PySem PySem.Spec PyProof.Rows L2

/-- what is wanted of an operation's value -/
def VPost (O : OS) (H : Hp) (Q : VK) : Val → Prop
  | (.sh, d) => ∀ v H', Ex H H' → Rp H' O v d → Q v H'
  | (.fr, d) => ∀ p H', H p = none → Ex H H' → OwnT H' (plus O p) p d → Q (.ref p) H'
  | _ => False
theorem VPost.s {O : OS} {H : Hp} {Q : VK} {d : D} {v : V} (h : VPost O H Q (.sh, d)) (r : Rp H O v d) : Q v H := h v H Ex.rfl' r
/-- a new list of items that stand -/
theorem VPost.l {O : OS} {H : Hp} {Q : VK} {ds : List D} {vs : List V} (h : VPost O H Q (.fr, .lst ds)) (r : Rps H O vs ds) : ∀ p, H p = none → Q (.ref p) (upd H p (.lst vs)) := fun p hp =>
  h p _ hp (Ex.new hp) ⟨vs, upd_same, r.go ⟨fun a o e _ => Ex.new hp a o e, fun a z => z.imp id fun z => by rw [z]; exact hp⟩⟩
theorem VPost.t {O : OS} {H : Hp} {Q : VK} {ds : List D} {vs : List V} (h : VPost O H Q (.sh, .tup ds)) (r : Rps H O vs ds) (hO : ∀ a, O a → H a ≠ none) : ∀ p, H p = none → Q (.ref p) (upd H p (.tup vs)) := fun p hp =>
  h _ _ (Ex.new hp) (.tup (fun z => hO p z hp) (.inl upd_same) (r.go (Goes1.ex (Ex.new hp))))

/-- one value -/
def q1 (o : U1) : V → Hp → VK → Prop := fun x H Q => ∃ O d r, (∀ a, O a → H a ≠ none) ∧ RpT H O x d ∧ op1 o d = some r ∧ VPost O H Q r
/-- .. as the argument of a call -/
def c1 (o : U1) : List V → Hp → VK → Prop := fun xs H Q => ∃ x, xs = [x] ∧ q1 o x H Q
/-- two values -/
def q2 (o : U2) : R2 := fun x y H Q => ∃ O d e r, (∀ a, O a → H a ≠ none) ∧ RpT H O x d ∧ RpT H O y e ∧ op2 o d e = some r ∧ VPost O H Q r
def c2 (o : U2) : List V → Hp → VK → Prop := fun xs H Q => ∃ x y, xs = [x, y] ∧ q2 o x y H Q

section
variable {X : Cx}
theorem RpT.int {H : Hp} {O : OS} {v : V} {i : Int} (h : RpT H O v (.int i)) : v = .int i := by
  cases (show Rp H O v (.int i) from h); rfl
theorem RpT.str {H : Hp} {O : OS} {v : V} {i : Str} (h : RpT H O v (.str i)) : v = .str i := by
  cases (show Rp H O v (.str i) from h); rfl
theorem RpT.bl {H : Hp} {O : OS} {v : V} {i : Bool} (h : RpT H O v (.bl i)) : v = .bl i := by
  cases (show Rp H O v (.bl i) from h); rfl
theorem RpT.non {H : Hp} {O : OS} {v : V} (h : RpT H O v .non) : v = .non := by
  cases (show Rp H O v .non from h); rfl

/-! ### one value -/
theorem ok_neg : UnR X (unaryOp .USub) (q1 .neg) := by
  rintro pins s σ H x v Q I rx ⟨O, d, r, hO, hd, e, q⟩
  cases d with
  | int i =>
    cases e
    exact un_neg pins s σ H x v Q I rx ⟨i, hd.int, q.s (.int _)⟩
  | _ => cases e
theorem ok_len : CallR X (.builtin "len") (c1 .len) := by
  rintro pins s σ H xs us Q I rs ⟨x, rfl, O, d, r, hO, hd, e, q⟩
  cases d with
  | lst ds =>
    cases e
    obtain ⟨a, vs, rfl, h, rr⟩ := hd
    refine call_len_seq pins s σ H _ us Q I rs ⟨a, vs, rfl, .inl (.inl h), ?_⟩
    rw [rr.length]; exact q.s (.int _)
  | tup ds =>
    cases e
    obtain ⟨a, vs, rfl, _, h, rr⟩ := hd.tup
    refine call_len_seq pins s σ H _ us Q I rs ⟨a, vs, rfl, .inr (.inl h), ?_⟩
    rw [rr.length]; exact q.s (.int _)
  | str z =>
    simp only [op1] at e
    split at e
    · cases e
      exact call_len_str pins s σ H _ us Q I rs ⟨z, by rw [hd.str], by assumption, q.s (.int _)⟩
    · cases e
  | _ => cases e
theorem ok_list : CallR X (.type "list") (c1 .list) := by
  rintro pins s σ H xs us Q I rs ⟨x, rfl, O, d, r, hO, hd, e, q⟩
  cases d with
  | lst ds =>
    cases e
    obtain ⟨a, vs, rfl, h, rr⟩ := hd
    exact call_list_of pins s σ H _ us Q I rs ⟨a, vs, rfl, .inl (.inl h), q.l rr⟩
  | tup ds =>
    cases e
    obtain ⟨a, vs, rfl, _, h, rr⟩ := hd.tup
    exact call_list_of pins s σ H _ us Q I rs ⟨a, vs, rfl, .inr (.inl h), q.l rr⟩
  | _ => cases e
theorem ok_tuple : CallR X (.type "tuple") (c1 .tuple) := by
  rintro pins s σ H xs us Q I rs ⟨x, rfl, O, d, r, hO, hd, e, q⟩
  cases d with
  | lst ds =>
    cases e
    obtain ⟨a, vs, rfl, h, rr⟩ := hd
    exact call_tuple_of pins s σ H _ us Q I rs ⟨a, vs, rfl, .inl ⟨.inl h, q.t rr hO⟩⟩
  | tup ds =>
    cases e
    obtain ⟨a, vs, rfl, n, h, rr⟩ := hd.tup
    exact call_tuple_of pins s σ H _ us Q I rs ⟨a, vs, rfl, .inr ⟨.inl h, q.s (.tup n h rr)⟩⟩
  | _ => cases e
theorem ok_sum (hc : X.calm = true) : CallR X (.builtin "sum") (c1 .sum) := by
  rintro pins s σ H xs us Q I rs ⟨x, rfl, O, d, r, hO, hd, e, q⟩
  cases d with
  | lst ds =>
    obtain ⟨ns, en, rfl⟩ := Option.map_eq_some_iff.mp e
    obtain ⟨a, vs, rfl, h, rr⟩ := hd
    have ev := rr.ints en
    subst ev
    exact cr_sum hc pins s σ H _ us Q I rs ⟨a, ns, rfl, .inl h, q.s (.int _)⟩
  | _ => cases e
theorem ok_all (hc : X.calm = true) : CallR X (.builtin "all") (c1 .all) := by
  rintro pins s σ H xs us Q I rs ⟨x, rfl, O, d, r, hO, hd, e, q⟩
  cases d with
  | lst ds =>
    obtain ⟨ns, en, rfl⟩ := Option.map_eq_some_iff.mp e
    obtain ⟨a, vs, rfl, h, rr⟩ := hd
    have ev := rr.bls en
    subst ev
    exact cr_all hc pins s σ H _ us Q I rs ⟨a, ns, rfl, .inl h, q.s (.bl _)⟩
  | _ => cases e
theorem ok_abs : CallR X (.builtin "abs") (c1 .abs) := by
  rintro pins s σ H xs us Q I rs ⟨x, rfl, O, d, r, hO, hd, e, q⟩
  cases d with
  | int i =>
    cases e
    exact call_abs pins s σ H _ us Q I rs ⟨i, by rw [hd.int], q.s (.int _)⟩
  | _ => cases e
theorem ok_int : CallR X (.type "int") (c1 .int) := by
  rintro pins s σ H xs us Q I rs ⟨x, rfl, O, d, r, hO, hd, e, q⟩
  cases d with
  | int i =>
    cases e
    exact call_int1 pins s σ H _ us Q I rs (.inl ⟨i, by rw [hd.int], q.s (.int _)⟩)
  | bl b =>
    cases e
    exact call_int1 pins s σ H _ us Q I rs (.inr ⟨b, by rw [hd.bl], q.s (.int _)⟩)
  | _ => cases e
def isNonD : D → Bool
  | .non => true
  | _ => false
theorem isN_val {H : Hp} {O : OS} {v : V} {d : D} (hd : RpT H O v d) : decide (v = .non) = isNonD d := by
  cases d with
  | non => rw [hd.non]; rfl
  | bl b => rw [hd.bl]; rfl
  | int b => rw [hd.int]; rfl
  | str b => rw [hd.str]; rfl
  | tup ds => obtain ⟨a, vs, rfl, _⟩ := hd.tup; rfl
  | lst ds => obtain ⟨a, vs, rfl, _⟩ := hd; rfl
  | dic ds => obtain ⟨a, vs, rfl, _⟩ := hd; rfl
  | exc c b => cases (show Rp H O v (.exc c b) from hd)
theorem ok_isN {x : V} {H : Hp} {Q : VK} (h : q1 .isNone x H Q) : Q (.bl (decide (x = .non))) H := by
  obtain ⟨O, d, r, hO, hd, e, q⟩ := h
  rw [isN_val hd]
  cases d <;> (cases e; exact q.s (.bl _))
theorem ok_notN {x : V} {H : Hp} {Q : VK} (h : q1 .notNone x H Q) : Q (.bl (!decide (x = .non))) H := by
  obtain ⟨O, d, r, hO, hd, e, q⟩ := h
  rw [isN_val hd]
  cases d <;> (cases e; exact q.s (.bl _))

/-! ### isinstance -/
def Kd.nm : Kd → String
  | .str => "str" | .tup => "tuple" | .lst => "list" | .dic => "dict" | .int => "int" | .bl => "bool"
def tyN : D → String
  | .non => "NoneType" | .str _ => "str" | .tup _ => "tuple" | .lst _ => "list" | .dic _ => "dict" | .int _ => "int" | .bl _ => "bool" | .exc _ _ => ""
theorem kit_non (k : Kd) : kitB "NoneType" k.nm = some (false) := by
  cases k <;> decide +kernel
theorem kit_bl (k : Kd) : kitB "bool" k.nm = some (k == .bl || k == .int) := by
  cases k <;> decide +kernel
theorem kit_int (k : Kd) : kitB "int" k.nm = some (k == .int) := by
  cases k <;> decide +kernel
theorem kit_str (k : Kd) : kitB "str" k.nm = some (k == .str) := by
  cases k <;> decide +kernel
theorem kit_tup (k : Kd) : kitB "tuple" k.nm = some (k == .tup) := by
  cases k <;> decide +kernel
theorem kit_lst (k : Kd) : kitB "list" k.nm = some (k == .lst) := by
  cases k <;> decide +kernel
theorem kit_dic (k : Kd) : kitB "dict" k.nm = some (k == .dic) := by
  cases k <;> decide +kernel
theorem kit_all (k : Kd) (d : D) (b : Bool) (h : kdOf k d = some b) (hx : ∀ c e, d ≠ .exc c e) : kitB (tyN d) k.nm = some b := by
  cases d with
  | exc c e => exact absurd rfl (hx c e)
  | non => cases h; exact kit_non k
  | bl x => cases h; exact kit_bl k
  | int x => cases h; exact kit_int k
  | str x => cases h; exact kit_str k
  | tup x => cases h; exact kit_tup k
  | lst x => cases h; exact kit_lst k
  | dic x => cases h; exact kit_dic k
theorem tyx_of {H : Hp} {O : OS} {v : V} {d : D} {K : PySem.W.Frag} (hd : RpT H O v d) : TyX K H v (.type (tyN d)) ∧ ∀ c e, d ≠ .exc c e := by
  cases d with
  | non => rw [hd.non]; exact ⟨.base .non, fun _ _ z => nomatch z⟩
  | bl b => rw [hd.bl]; exact ⟨.base (.bl b), fun _ _ z => nomatch z⟩
  | int b => rw [hd.int]; exact ⟨.base (.int b), fun _ _ z => nomatch z⟩
  | str b => rw [hd.str]; exact ⟨.base (.str b), fun _ _ z => nomatch z⟩
  | tup ds =>
    obtain ⟨a, vs, rfl, _, h, _⟩ := hd.tup
    refine ⟨?_, fun _ _ z => nomatch z⟩
    rcases h with h | ⟨o, h⟩
    · exact .base (.tup h)
    · exact .fTuple h
  | lst ds =>
    obtain ⟨a, vs, rfl, h, _⟩ := hd
    refine ⟨?_, fun _ _ z => nomatch z⟩
    rcases h with h | ⟨o, h⟩
    · exact .base (.lst h)
    · exact .base (.frz h)
  | dic ds =>
    obtain ⟨a, vs, rfl, h, _⟩ := hd
    refine ⟨?_, fun _ _ z => nomatch z⟩
    rcases h with h | ⟨o, h⟩
    · exact .base (.dK h)
    · exact .fDict h
  | exc c b => cases (show Rp H O v (.exc c b) from hd)
theorem ok_isi (k : Kd) : CallR X (.builtin "isinstance") (fun xs H Q => ∃ x, xs = [x, .ty k.nm] ∧ q1 (.isK k) x H Q) := by
  rintro pins s σ H xs us Q I rs ⟨x, rfl, O, d, r, hO, hd, e, q⟩
  obtain ⟨b, eb, rfl⟩ := Option.map_eq_some_iff.mp e
  obtain ⟨ty, hx⟩ := tyx_of (K := X.K) hd
  exact call_isi pins s σ H _ us Q I rs ⟨x, .ty k.nm, .type (tyN d), .type k.nm, b, rfl, .ty _, ty, kit_ty (kit_all k d b eb hx), q.s (.bl _)⟩

/-! ### two values -/
theorem ok_add : OpR X (binaryOp .Add) (q2 .add) := by
  rintro pins s σ H x y v u Q I rx ry ⟨O, d, e, r, hO, hd, he, ho, q⟩
  cases d with
  | int i => cases e with
    | int j => cases ho; exact op_add pins s σ H x y v u Q I rx ry ⟨i, j, hd.int, he.int, q.s (.int _)⟩
    | _ => cases ho
  | str i => cases e with
    | str j =>
      simp only [op2, opAdd] at ho
      split at ho
      · cases ho
        exact op_add_str pins s σ H x y v u Q I rx ry ⟨i, j, hd.str, he.str, of_decide_eq_true (by assumption), q.s (.str _)⟩
      · cases ho
    | _ => cases ho
  | lst ds => cases e with
    | lst es =>
      simp only [op2, opAdd] at ho
      split at ho
      · rename_i hz
        cases ho
        obtain ⟨a, vs, rfl, h, rr⟩ := hd
        obtain ⟨b, ws, rfl, h', rr'⟩ := he
        have hz' := of_decide_eq_true hz
        cases rx
        cases ry
        obtain ⟨z1, its, n1, r1, g1⟩ := h.ok I.hok
        obtain ⟨z2, its2, n2, r2, g2⟩ := h'.ok I.hok
        have l1 := r1.length
        have l2 := r2.length
        have m1 := rr.length
        have m2 := rr'.length
        refine PySem.P.add_list g1 g2 ?_ (by rw [List.size_toArray, List.size_toArray]; omega)
        have ea : its.toArray ++ its2.toArray = (its ++ its2).toArray := by simp
        rw [ea]
        exact ⟨.ref _, _, I.lnew (t' := s.toks) (r1.append r2) (by rw [List.length_append]; omega), rfl, q.l (rr.app rr') _ I.fresh⟩
      · cases ho
    | _ => cases ho
  | tup ds => cases e with
    | tup es =>
      simp only [op2, opAdd] at ho
      split at ho
      · rename_i hz
        cases ho
        obtain ⟨a, vs, rfl, n, h, rr⟩ := hd.tup
        obtain ⟨b, ws, rfl, n', h', rr'⟩ := he.tup
        have hz' := of_decide_eq_true hz
        have m1 := rr.length
        have m2 := rr'.length
        refine op_catA pins s σ H _ _ v u Q I rx ry ⟨a, b, vs, ws, rfl, rfl, .inl h, .inl h', by omega, fun e => ?_, fun _ e => ?_, fun _ _ => q.t (rr.app rr') hO⟩
        · subst e; cases rr; exact q.s (.tup n' h' rr')
        · subst e; cases rr'; rw [List.append_nil] at q; exact q.s (.tup n h rr)
      · cases ho
    | _ => cases ho
  | _ => cases ho
theorem int2 {H : Hp} {O : OS} {x y : V} {d e : D} {r : Val} {f : Int → Int → Option Val} (hd : RpT H O x d) (he : RpT H O y e) (ho : onInts f d e = some r) :
    ∃ i j, x = .int i ∧ y = .int j ∧ f i j = some r := by
  cases d with
  | int i => cases e with
    | int j => exact ⟨i, j, hd.int, he.int, ho⟩
    | _ => cases ho
  | _ => cases ho
theorem ok_sub : OpR X (binaryOp .Sub) (q2 .sub) := by
  rintro pins s σ H x y v u Q I rx ry ⟨O, d, e, r, hO, hd, he, ho, q⟩
  obtain ⟨i, j, rfl, rfl, e1⟩ := int2 hd he ho
  cases e1
  exact op_sub pins s σ H _ _ v u Q I rx ry ⟨i, j, rfl, rfl, q.s (.int _)⟩
theorem mulOk_ok {i j : Int} (h : mulOk i j = true) : IntMulOk i j := by
  unfold mulOk at h
  simp only [Bool.or_eq_true, Bool.and_eq_true, decide_eq_true_eq] at h
  rcases h with (h | h) | h
  · exact CMul.ok (.inl h)
  · exact CMul.ok (.inr h)
  · have b : ∀ x : Int, Builtin.Int.intBits x ≤ x.natAbs.log2 + 1 := fun x => by
      unfold Builtin.Int.intBits; split <;> omega
    have h1 := b i
    have h2 := b j
    have e : bitsLine = 134217728 := by decide
    intro z
    have z2 := (Bool.and_eq_true _ _ ▸ z).2
    unfold Builtin.Int.intTooBig at z2
    have z3 := of_decide_eq_true z2
    rw [e] at z3
    omega
theorem ok_mul : OpR X (binaryOp .Mult) (q2 .mul) := by
  rintro pins s σ H x y v u Q I rx ry ⟨O, d, e, r, hO, hd, he, ho, q⟩
  obtain ⟨i, j, rfl, rfl, e1⟩ := int2 (f := fun i j => if mulOk i j then some (.sh, .int (i * j)) else none) hd he ho
  split at e1
  · cases e1
    exact opI (C := fun i j => mulOk i j = true) (fun _ _ _ _ _ _ _ hc q => mul_int q (mulOk_ok hc)) pins s σ H _ _ v u Q I rx ry ⟨i, j, rfl, rfl, by assumption, q.s (.int _)⟩
  · cases e1
theorem ok_fdiv : OpR X (binaryOp .FloorDiv) (q2 .fdiv) := by
  rintro pins s σ H x y v u Q I rx ry ⟨O, d, e, r, hO, hd, he, ho, q⟩
  obtain ⟨i, j, rfl, rfl, e1⟩ := int2 (f := fun i j => if divOk j then some (.sh, .int (i / j)) else none) hd he ho
  split at e1
  · rename_i hc
    cases e1
    simp only [divOk, Bool.and_eq_true, decide_eq_true_eq] at hc
    exact op_fdivW pins s σ H _ _ v u Q I rx ry ⟨i, j, rfl, rfl, hc, q.s (.int _)⟩
  · cases e1
theorem ok_mod : OpR X (binaryOp .Mod) (q2 .mod) := by
  rintro pins s σ H x y v u Q I rx ry ⟨O, d, e, r, hO, hd, he, ho, q⟩
  obtain ⟨i, j, rfl, rfl, e1⟩ := int2 (f := fun i j => if decide (0 < j) then some (.sh, .int (i % j)) else none) hd he ho
  split at e1
  · rename_i hc
    cases e1
    exact op_mod pins s σ H _ _ v u Q I rx ry ⟨i, j, rfl, rfl, of_decide_eq_true hc, q.s (.int _)⟩
  · cases e1
theorem ok_pow : OpR X (binaryOp .Pow) (q2 .pow) := by
  rintro pins s σ H x y v u Q I rx ry ⟨O, d, e, r, hO, hd, he, ho, q⟩
  obtain ⟨i, j, rfl, rfl, e1⟩ := int2 (f := fun i j => if powOk i j then some (.sh, .int (i ^ j.toNat)) else none) hd he ho
  split at e1
  · rename_i hc
    cases e1
    simp only [powOk, Bool.and_eq_true, decide_eq_true_eq] at hc
    exact op_pow pins s σ H _ _ v u Q I rx ry ⟨i, j, rfl, rfl, ⟨hc.1.1, hc.1.2, hc.2⟩, q.s (.int _)⟩
  · cases e1
theorem eq_reads {H : Hp} {O : OS} {x y : V} {d e : D} {K : PySem.W.Frag} (hd : RpT H O x d) (he : RpT H O y e) (h : (d.eqOk && e.eqOk) = true) :
    Dp K H x d.toP ∧ Dp K H y e.toP ∧ d.toP.canLay0 = true ∧ e.toP.canLay0 = true ∧ d.toP.depth ≤ 150 ∧ e.toP.depth ≤ 150 := by
  simp only [D.eqOk, Bool.and_eq_true, decide_eq_true_eq] at h
  exact ⟨hd.dp h.1.1, he.dp h.2.1, h.1.1, h.2.1, h.1.2, h.2.2⟩
theorem ok_eq (hu : X.A.units + 200 < cLine) : OpR X (compareOp .Eq) (q2 .eq) := by
  rintro pins s σ H x y v u Q I rx ry ⟨O, d, e, r, hO, hd, he, ho, q⟩
  simp only [op2] at ho
  split at ho
  · rename_i hc
    cases ho
    obtain ⟨p1, p2, l1, l2, k1, k2⟩ := eq_reads (K := X.K) hd he hc
    obtain ⟨as, r1⟩ := Dp.reads I _ x v p1 rx
    obtain ⟨bs, r2⟩ := Dp.reads I _ y u p2 ry
    exact SeqAt.compareEq_reads r1 r2 l1 l2 (by omega) ⟨.bl _, H, I, rfl, q.s (.bl _)⟩
  · cases ho
theorem ok_ne (hu : X.A.units + 200 < cLine) : OpR X (compareOp .NotEq) (q2 .ne) := by
  rintro pins s σ H x y v u Q I rx ry ⟨O, d, e, r, hO, hd, he, ho, q⟩
  simp only [op2] at ho
  split at ho
  · rename_i hc
    cases ho
    obtain ⟨p1, p2, l1, l2, k1, k2⟩ := eq_reads (K := X.K) hd he hc
    obtain ⟨as, r1⟩ := Dp.reads I _ x v p1 rx
    obtain ⟨bs, r2⟩ := Dp.reads I _ y u p2 ry
    exact SeqAt.compareNe_reads r1 r2 l1 l2 (by omega) ⟨.bl _, H, I, rfl, q.s (.bl _)⟩
  · cases ho
theorem ok_lt : OpR X (compareOp .Lt) (q2 .lt) := by
  rintro pins s σ H x y v u Q I rx ry ⟨O, d, e, r, hO, hd, he, ho, q⟩
  obtain ⟨i, j, rfl, rfl, e1⟩ := int2 (f := fun i j => some (.sh, .bl (decide (i < j)))) hd he ho
  cases e1
  exact op_lt pins s σ H _ _ v u Q I rx ry ⟨i, j, rfl, rfl, q.s (.bl _)⟩
theorem ok_le : OpR X (compareOp .LtE) (q2 .le) := by
  rintro pins s σ H x y v u Q I rx ry ⟨O, d, e, r, hO, hd, he, ho, q⟩
  obtain ⟨i, j, rfl, rfl, e1⟩ := int2 (f := fun i j => some (.sh, .bl (decide (i ≤ j)))) hd he ho
  cases e1
  exact op_le pins s σ H _ _ v u Q I rx ry ⟨i, j, rfl, rfl, q.s (.bl _)⟩
theorem ok_gt : OpR X (compareOp .Gt) (q2 .gt) := by
  rintro pins s σ H x y v u Q I rx ry ⟨O, d, e, r, hO, hd, he, ho, q⟩
  obtain ⟨i, j, rfl, rfl, e1⟩ := int2 (f := fun i j => some (.sh, .bl (decide (j < i)))) hd he ho
  cases e1
  exact op_gt pins s σ H _ _ v u Q I rx ry ⟨i, j, rfl, rfl, q.s (.bl _)⟩
theorem lexGe_at : ∀ (ns ms : List Int) (i : Nat), i ≤ min ns.length ms.length → Ob.lexAt (fun j => decide (ns.getD j 0 = ms.getD j 0)) (fun j => decide (ms.getD j 0 ≤ ns.getD j 0)) (decide (ms.length ≤ ns.length)) i (min ns.length ms.length - i) = lexGe (ns.drop i) (ms.drop i) := by
  intro ns ms i hi
  generalize hk : min ns.length ms.length - i = k
  induction k generalizing i with
  | zero =>
    rw [Ob.lexAt_zero]
    by_cases h1 : i < ns.length
    · have h2 : ms.length ≤ i := by omega
      rw [List.drop_of_length_le h2, List.drop_eq_getElem_cons h1]
      show decide (ms.length ≤ ns.length) = true
      exact decide_eq_true (by omega)
    · rw [List.drop_of_length_le (show ns.length ≤ i by omega)]
      by_cases h2 : i < ms.length
      · rw [List.drop_eq_getElem_cons h2]
        show decide (ms.length ≤ ns.length) = false
        exact decide_eq_false (by omega)
      · rw [List.drop_of_length_le (show ms.length ≤ i by omega)]
        show decide (ms.length ≤ ns.length) = true
        exact decide_eq_true (by omega)
  | succ k ih =>
    have h1 : i < ns.length := by omega
    have h2 : i < ms.length := by omega
    rw [Ob.lexAt_succ, ih (i + 1) (by omega) (by omega), List.drop_eq_getElem_cons h1, List.drop_eq_getElem_cons h2]
    simp [lexGe, List.getD, h1, h2]
theorem ok_ge (hu : X.A.units < cLine) : OpR X (compareOp .GtE) (q2 .ge) := by
  rintro pins s σ H x y v u Q I rx ry ⟨O, d, e, r, hO, hd, he, ho, q⟩
  cases d with
  | int i => cases e with
    | int j => cases ho; exact op_ge pins s σ H _ _ v u Q I rx ry ⟨i, j, hd.int, he.int, q.s (.bl _)⟩
    | _ => cases ho
  | tup ds => cases e with
    | tup es =>
      obtain ⟨ns, e1, ho⟩ := Option.bind_eq_some_iff.mp ho
      obtain ⟨ms, e2, rfl⟩ := Option.map_eq_some_iff.mp ho
      obtain ⟨a, vs, rfl, n, h, rr⟩ := hd.tup
      obtain ⟨b, ws, rfl, n', h', rr'⟩ := he.tup
      have ev := rr.ints e1
      have ew := rr'.ints e2
      subst ev ew
      cases rx
      cases ry
      obtain ⟨its, r1, p1, _⟩ := I.tuple (a := a) (.inl h)
      obtain ⟨its2, r2, p2, _⟩ := I.tuple (a := b) (.inl h')
      have i1 : IntsAre its ns := Vals.ints r1
      have i2 : IntsAre its2 ms := Vals.ints r2
      have z1 : its.toArray.size = ns.length := by rw [List.size_toArray]; exact i1.length
      have z2 : its2.toArray.size = ms.length := by rw [List.size_toArray]; exact i2.length
      have at1 : ∀ j (h1 : j < its.toArray.size), ∃ t, its.toArray[j] = .int (ns.getD j 0) t := fun j h1 => IntsAre.int_at i1 _ _ (by simp at h1; simp [h1])
      have at2 : ∀ j (h1 : j < its2.toArray.size), ∃ t, its2.toArray[j] = .int (ms.getD j 0) t := fun j h1 => IntsAre.int_at i2 _ _ (by simp at h1; simp [h1])
      have G := Ob.RcOp.tuples_ge (A := X.A) (s := s) (e := fun j => decide (ns.getD j 0 = ms.getD j 0)) (r := fun j => decide (ms.getD j 0 ≤ ns.getD j 0)) p1 p2 hu (fun j h1 h2 => by
        obtain ⟨t, et⟩ := at1 j h1
        obtain ⟨t', et'⟩ := at2 j h2
        rw [et, et', show decide (ns.getD j 0 = ms.getD j 0) = (ns.getD j 0 == ms.getD j 0) from (Bool.beq_eq_decide_eq _ _).symm]
        exact SeqAt.EqAt.int_int _ _ _ _) (fun j h1 h2 _ => by
        obtain ⟨t, et⟩ := at1 j h1
        obtain ⟨t', et'⟩ := at2 j h2
        rw [et, et']
        exact Ob.RcOp.ge_int _ _ _ _)
      rw [z1, z2] at G
      have L := lexGe_at ns ms 0 (Nat.zero_le _)
      rw [Nat.sub_zero, List.drop_zero, List.drop_zero] at L
      rw [L] at G
      exact G X.prog X.w X.xe (EP X pins σ Q) ⟨.bl _, H, I, rfl, q.s (.bl _)⟩
    | _ => cases ho
  | _ => cases ho
theorem toPs_map (ds : List D) : D.toPs ds = ds.map D.toP := by
  induction ds with
  | nil => rfl
  | cons d r ih => simp only [D.toPs, List.map_cons, ih]
theorem any_toP (ds : List D) (a : D) : (D.toPs ds).any (fun z => PyData.eqv z a.toP) = ds.any fun z => z.eq a := by
  rw [toPs_map, List.any_map]; rfl
theorem in_reads {H : Hp} {O : OS} {x y : V} {d : D} {es : List D} {K : PySem.W.Frag} {A : Around} (hu : A.units + 200 < cLine) (hd : RpT H O x d) (he : RpT H O y (.lst es)) (h : (d.eqOk && (D.lst es).eqOk) = true) :
    Dp K H x d.toP ∧ Dp K H y (.list (D.toPs es)) ∧ d.toP.canLay0 = true ∧ PyData.canLayAll0 (D.toPs es) = true ∧ A.units + 1 + min (PyData.depthAll (D.toPs es)) d.toP.depth < cLine := by
  obtain ⟨p1, p2, l1, l2, k1, k2⟩ := eq_reads (K := K) hd he h
  exact ⟨p1, p2, l1, l2, by omega⟩
theorem ok_in (hu : X.A.units + 200 < cLine) : OpR X (compareOp .In) (q2 .inn) := by
  rintro pins s σ H x y v u Q I rx ry ⟨O, d, e, r, hO, hd, he, ho, q⟩
  cases e with
  | lst es =>
    simp only [op2] at ho
    split at ho
    · rename_i hc
      cases ho
      obtain ⟨p1, p2, l1, l2, k⟩ := in_reads (K := X.K) hu hd he hc
      obtain ⟨as, r1⟩ := Dp.reads I _ x v p1 rx
      obtain ⟨bs, r2⟩ := Dp.reads I _ y u p2 ry
      refine SeqAt.in_list_reads r2 r1 l2 l1 k ?_
      rw [any_toP]
      exact ⟨.bl _, H, I, rfl, q.s (.bl _)⟩
    · cases ho
  | _ => cases ho
theorem ok_nin (hu : X.A.units + 200 < cLine) : OpR X (compareOp .NotIn) (q2 .nin) := by
  rintro pins s σ H x y v u Q I rx ry ⟨O, d, e, r, hO, hd, he, ho, q⟩
  cases e with
  | lst es =>
    simp only [op2] at ho
    split at ho
    · rename_i hc
      cases ho
      obtain ⟨p1, p2, l1, l2, k⟩ := in_reads (K := X.K) hu hd he hc
      obtain ⟨as, r1⟩ := Dp.reads I _ x v p1 rx
      obtain ⟨bs, r2⟩ := Dp.reads I _ y u p2 ry
      refine SeqAt.notIn_list_reads r2 r1 l2 l1 k ?_
      rw [any_toP]
      exact ⟨.bl _, H, I, rfl, q.s (.bl _)⟩
    · cases ho
  | _ => cases ho
theorem ok_idx : IxR X (q2 .idx) := by
  rintro value slice pins s σ H x y v u Q I rx ry ⟨O, d, e, r, hO, hd, he, ho, q⟩ hs
  cases e with
  | int i =>
    have hy := he.int
    subst hy
    cases d with
    | lst ds =>
      obtain ⟨z, e1, rfl⟩ := Option.map_eq_some_iff.mp ho
      obtain ⟨a, vs, rfl, h, rr⟩ := hd
      obtain ⟨w, ew, rw'⟩ := rr.at e1
      exact ix_list value slice pins s σ H _ _ v u Q I rx ry ⟨a, vs, i, w, rfl, rfl, .inl h, ew, q.s rw'⟩ hs
    | tup ds =>
      obtain ⟨z, e1, rfl⟩ := Option.map_eq_some_iff.mp ho
      obtain ⟨a, vs, rfl, n, h, rr⟩ := hd.tup
      obtain ⟨w, ew, rw'⟩ := rr.at e1
      exact ix_tup value slice pins s σ H _ _ v u Q I rx ry ⟨a, vs, i, w, rfl, rfl, .inl h, ew, q.s rw'⟩ hs
    | str z =>
      simp only [op2, opIdx] at ho
      split at ho
      · rename_i hz
        obtain ⟨c, e1, rfl⟩ := Option.map_eq_some_iff.mp ho
        exact ix_str value slice pins s σ H _ _ v u Q I rx ry ⟨z, i, c, hd.str, rfl, of_decide_eq_true hz, e1, q.s (.str _)⟩ hs
      · cases ho
    | _ => cases ho
  | _ => cases d <;> cases ho
theorem ok_max (hc : X.calm = true) : CallR X (.builtin "max") (c2 .max) := by
  rintro pins s σ H xs us Q I rs ⟨x, y, rfl, O, d, e, r, hO, hd, he, ho, q⟩
  obtain ⟨i, j, rfl, rfl, e1⟩ := int2 (f := fun i j => some (.sh, .int (maxI i j))) hd he ho
  cases e1
  exact call_max2 hc pins s σ H _ us Q I rs ⟨i, j, rfl, q.s (.int _)⟩
theorem ok_min (hc : X.calm = true) : CallR X (.builtin "min") (c2 .min) := by
  rintro pins s σ H xs us Q I rs ⟨x, y, rfl, O, d, e, r, hO, hd, he, ho, q⟩
  obtain ⟨i, j, rfl, rfl, e1⟩ := int2 (f := fun i j => some (.sh, .int (minI i j))) hd he ho
  cases e1
  exact call_min2 hc pins s σ H _ us Q I rs ⟨i, j, rfl, q.s (.int _)⟩

/-! ### slices -/
def qS : V → Option Int → Option Int → Hp → VK → Prop := fun x lo hi H Q => ∃ O d r, (∀ a, O a → H a ≠ none) ∧ RpT H O x d ∧ opSl d lo hi = some r ∧ VPost O H Q r
theorem ok_sl : SlR X qS := by
  rintro pins s σ H x v vl vu lo hi sl Q I rx hs pl pu ⟨O, d, r, hO, hd, e, q⟩
  cases d with
  | lst ds =>
    cases e
    obtain ⟨a, vs, rfl, h, rr⟩ := hd
    exact sl_list pins s σ H _ v vl vu lo hi sl Q I rx hs pl pu ⟨a, vs, rfl, .inl h, q.l (rr.cut lo hi)⟩
  | tup ds =>
    cases e
    obtain ⟨a, vs, rfl, n, h, rr⟩ := hd.tup
    refine sl_tupA pins s σ H _ v vl vu lo hi sl Q I rx hs pl pu ⟨a, vs, rfl, .inl h, fun z => ?_, fun _ => q.t (rr.cut lo hi) hO⟩
    have e2 : cut ds lo hi = ds := by
      unfold cut
      rw [← rr.length, z.1, z.2, List.drop_zero, Nat.sub_zero, rr.length, List.take_length]
    rw [e2] at q
    exact q.s (.tup n h rr)
  | str z =>
    simp only [opSl] at e
    split at e
    · rename_i hz
      cases e
      refine sl_str pins s σ H _ v vl vu lo hi sl Q I rx hs pl pu ⟨z, hd.str, of_decide_eq_true hz, ?_⟩
      exact q.s (.str _)
    · cases e
  | _ => cases e
/-! ### max(xs, default=0), ''.join(xs) -/
theorem reads_ints {H : Hp} {pins : List (Addr × Obj)} {σ : L2.St} {s : Shared} (I : L2.Inv X pins σ H s) : ∀ {ns : List Int} {its : List Value}, Vals (ns.map V.int) its → ∃ as, ReadsAll s.heap its (ns.map PyData.int) as := by
  intro ns
  induction ns with
  | nil => intro its r; cases r; exact ⟨_, .nil⟩
  | cons n ns ih =>
    intro its r
    cases r with
    | cons r1 r2 =>
      obtain ⟨t, rfl⟩ := r1
      obtain ⟨as, h⟩ := ih r2
      exact ⟨_, .cons (.int n t) h⟩
theorem alike_ints (ns : List Int) : PySem.W.AlikeAll (ns.map PyData.int) := by
  refine ⟨fun x hx y hy => ?_, fun x hx => ?_⟩
  · obtain ⟨i, _, rfl⟩ := List.mem_map.mp hx
    obtain ⟨j, _, rfl⟩ := List.mem_map.mp hy
    rfl
  · obtain ⟨i, _, rfl⟩ := List.mem_map.mp hx
    exact fun z => nomatch z
theorem depth_ints (ns : List Int) : PyData.depthAll (ns.map PyData.int) = 0 := by
  induction ns with
  | nil => rfl
  | cons n ns ih => simp only [List.map_cons, PyData.depthAll, PyData.depth, ih]; rfl
theorem ok_max0 (hc : X.calm = true) (hu : X.A.units + 200 < cLine) : CallRK X (.builtin "max") ["default"] (fun xs zs H Q => ∃ x, xs = [x] ∧ zs = [.int 0] ∧ q1 .max0 x H Q) := by
  rintro pins s σ H xs zs us ws Q I rs rz ⟨x, rfl, rfl, O, d, r, hO, hd, e, q⟩
  cases d with
  | lst ds =>
    obtain ⟨ns, en, rfl⟩ := Option.map_eq_some_iff.mp e
    obtain ⟨a, vs, rfl, h, rr⟩ := hd
    have ev := rr.ints en
    subst ev
    obtain ⟨its, rv, hl, _⟩ := I.list (a := a) (.inl h)
    rw [Vals.ref1 rs]
    obtain ⟨u, rfl, ru⟩ := Vals.one rz
    obtain ⟨as, hr⟩ := reads_ints I rv
    refine PySem.W.max_list_default (I.ok.hd hc) hl.isList hr (alike_ints ns) (by rw [depth_ints]; omega) (fun h0 h' tk hk => ?_) fun y ys i v h' tk bs hx hv hr' hk => ?_
    · have e0 : ns = [] := by simpa using h0
      subst e0
      exact ⟨.int 0, H, I.kept hk, ru, q.s (.int _)⟩
    · cases ns with
      | nil => cases hx
      | cons n ns =>
        simp only [List.map_cons, List.cons.injEq] at hx
        obtain ⟨rfl, rfl⟩ := hx
        rw [PySem.W.maxD_ints] at hr'
        cases hr' with
        | int _ t => exact ⟨.int _, H, I.kept hk, ⟨_, rfl⟩, q.s (.int _)⟩
  | _ => cases e
theorem join_nilS : ∀ xs : List Str, Str.join ⟨#[]⟩ xs = joinS xs
  | [] => rfl
  | [x] => by
    show x = x ++ (⟨#[]⟩ : Str)
    cases x with | mk c => show (⟨c⟩ : Str) = ⟨c ++ #[]⟩; simp
  | x :: y :: r => by
    show x ++ (⟨#[]⟩ : Str) ++ Str.join ⟨#[]⟩ (y :: r) = x ++ joinS (y :: r)
    rw [join_nilS (y :: r)]
    have e : x ++ (⟨#[]⟩ : Str) = x := by cases x with | mk c => show (⟨c ++ #[]⟩ : Str) = ⟨c⟩; simp
    rw [e]
theorem join_nil (xs : List Str) : Txt.join ⟨#[]⟩ xs = joinS xs := (PySem.StrLaws.glued_eq_join _ _).trans (join_nilS xs)
theorem lenAll_sum (xs : List Str) : lenAll xs = (xs.map (·.length)).sum := by
  induction xs with
  | nil => rfl
  | cons x r ih => simp only [lenAll, List.map_cons, List.sum_cons, ih]
theorem ok_join : MtR X "str.join" (fun x xs H Q => x = .str ⟨#[]⟩ ∧ c1 .join xs H Q) := by
  rintro pins s σ H x xs v us Q I rx rs ⟨rfl, y, rfl, O, d, r, hO, hd, e, q⟩
  cases d with
  | lst ds =>
    obtain ⟨ys, ey, e⟩ := Option.bind_eq_some_iff.mp e
    split at e
    · rename_i hz
      cases e
      obtain ⟨a, vs, rfl, h, rr⟩ := hd
      have ev := rr.strs ey
      subst ev
      refine mt_join pins s σ H _ _ v us Q I rx rs ⟨_, a, ys, rfl, rfl, .inl (.inl h), ?_, ?_⟩
      · rw [← lenAll_sum]; show _ + ys.length * 0 ≤ _; omega
      · rw [join_nil]; exact q.s (.str _)
    · cases e
  | _ => cases e
end
end En
end

section
set_option Elab.async false
set_option linter.all false
set_option maxRecDepth 100000
set_option maxHeartbeats 4000000
namespace En
open PySem PySem.Spec L2

/-! ### environments over slots -/
def WA (env : Env) (σ : L2.St) : OS := fun a => ∃ i, isOw env i = true ∧ σ[i]? = some (some (.ref a))
def All (Ox : OS) (env : Env) (σ : L2.St) : OS := fun a => Ox a ∨ WA env σ a

structure EvR (Ox : OS) (H0 : Hp) (M : OS) (env : Env) (σ : L2.St) (H : Hp) : Prop where
  len : env.length = σ.length
  sh : ∀ i d, getS env i = some (.sh, d) → ∃ v, σ[i]? = some (some v) ∧ Rp H (All Ox env σ) v d
  ow : ∀ i m d, getS env i = some (m, d) → m ≠ .sh → ∃ a, σ[i]? = some (some (.ref a)) ∧ OwnT H (All Ox env σ) a d ∧ ¬ Ox a ∧ (m = .ow → H0 a = none) ∧ (m = .mu → M a)
  inj : ∀ i j a, isOw env i = true → isOw env j = true → σ[i]? = some (some (.ref a)) → σ[j]? = some (some (.ref a)) → i = j
  pres : ∀ a o, H0 a = some o → ¬ M a → H a = some o
  dom : ∀ a, Ox a → H a ≠ none
  mdom : ∀ a, M a → H a ≠ none

theorem isOw_iff {env : Env} {i : Nat} : isOw env i = true ↔ ∃ m d, getS env i = some (m, d) ∧ m ≠ .sh := by
  unfold isOw
  cases h : getS env i with
  | none => simp
  | some p =>
    obtain ⟨m, d⟩ := p
    cases m <;> simp

section
variable {Ox Ox1 : OS} {H0 H H' H1 H2 : Hp} {M Wa Wb : OS} {env env1 env2 : Env} {σ : L2.St}
theorem EvR.owa (e : EvR Ox H0 M env σ H) {a : Addr} (h : WA env σ a) : ¬ Ox a ∧ H a ≠ none := by
  obtain ⟨i, hi, hs⟩ := h
  obtain ⟨m, d, hg, hm⟩ := isOw_iff.mp hi
  obtain ⟨b, hb, ho, hx, _⟩ := e.ow i m d hg hm
  rw [hs] at hb
  have := Option.some.inj (Option.some.inj hb)
  cases this
  exact ⟨hx, ho.some⟩
theorem EvR.domA (e : EvR Ox H0 M env σ H) : ∀ a, All Ox env σ a → H a ≠ none := fun a h => by
  rcases h with h | h
  · exact e.dom a h
  · exact (e.owa h).2
theorem EvR.back (e : EvR Ox H0 M env σ H) {a : Addr} (h : H a = none) : H0 a = none := by
  cases q : H0 a with
  | none => rfl
  | some o =>
    by_cases hm : M a
    · exact absurd h (e.mdom a hm)
    · rw [e.pres a o q hm] at h; cases h
/-- the heap goes on, nothing that stood is changed -/
theorem EvR.ex (e : EvR Ox H0 M env σ H) (x : Ex H H') : EvR Ox H0 M env σ H' where
  len := e.len
  sh := fun i d h => let ⟨v, a, b⟩ := e.sh i d h; ⟨v, a, b.go (Goes1.ex x)⟩
  ow := fun i m d h k => let ⟨a, b, c, r⟩ := e.ow i m d h k; ⟨a, b, c.go (Goes1.ex x) (fun o q => x a o q), r⟩
  inj := e.inj
  pres := fun a o h k => x a o (e.pres a o h k)
  dom := fun a h z => by
    cases q : H a with
    | none => exact e.dom a h q
    | some o => rw [x a o q] at z; cases z
  mdom := fun a h z => by
    cases q : H a with
    | none => exact e.mdom a h q
    | some o => rw [x a o q] at z; cases z
theorem EvR.less (e : EvR Ox1 H0 M env σ H) (s : ∀ a, Ox a → Ox1 a) : EvR Ox H0 M env σ H where
  len := e.len
  sh := fun i d h => let ⟨v, a, b⟩ := e.sh i d h; ⟨v, a, b.go (Goes1.less fun a z => z.imp (s a) id)⟩
  ow := fun i m d h k => let ⟨a, b, c, n, r⟩ := e.ow i m d h k; ⟨a, b, c.go (Goes1.less fun a z => z.imp (s a) id) (fun o q => q), fun z => n (s a z), r⟩
  inj := e.inj
  pres := e.pres
  dom := fun a h => e.dom a (s a h)
  mdom := e.mdom
/-- a new address is kept away from -/
theorem EvR.add (e : EvR Ox H0 M env σ H) {p : Addr} (hp : H p = none) (x : Ex H H') (hq : H' p ≠ none) : EvR (plus Ox p) H0 M env σ H' := by
  have e' := e.ex x
  have g : Goes1 H H' (All Ox env σ) (All (plus Ox p) env σ) := ⟨fun a o h _ => x a o h, fun a z => by
    rcases z with (z | z) | z
    · exact .inl (.inl z)
    · exact .inr (by rw [z]; exact hp)
    · exact .inl (.inr z)⟩
  refine ⟨e.len, fun i d h => ?_, fun i m d h k => ?_, e.inj, e'.pres, fun a h => ?_, e'.mdom⟩
  · obtain ⟨v, a, b⟩ := e.sh i d h
    exact ⟨v, a, b.go g⟩
  · obtain ⟨a, b, c, n, r⟩ := e.ow i m d h k
    refine ⟨a, b, c.go g fun o q => x a o q, fun z => ?_, r⟩
    rcases z with z | z
    · exact n z
    · exact c.some (by rw [z]; exact hp)
  · rcases h with h | h
    · exact e'.dom a h
    · rw [h]; exact hq

/-! ### what an expression may change -/
structure Fr (Wa : OS) (q : Bool) (H H' : Hp) : Prop where
  keep : ∀ a o, H a = some o → ¬ Wa a → H' a = some o
  dom : ∀ a, H a ≠ none → H' a ≠ none
  ex : q = true → Ex H H'
theorem Fr.none_back {q : Bool} (f : Fr Wa q H H') {a : Addr} (h : H' a = none) : H a = none := by
  cases e : H a with
  | none => rfl
  | some o => exact absurd h (f.dom a (by rw [e]; simp))
theorem Ex.dom (x : Ex H H') {a : Addr} (h : H a ≠ none) : H' a ≠ none := fun z => by
  cases e : H a with
  | none => exact h e
  | some o => rw [x a o e] at z; cases z
theorem Ex.fr {q : Bool} (x : Ex H H') : Fr Wa q H H' := ⟨fun a o h _ => x a o h, fun a h => x.dom h, fun _ => x⟩
theorem Fr.trans {q q1 q2 : Bool} (f : Fr Wa q1 H H1) (g : Fr Wb q2 H1 H2) (s : ∀ a, Wb a → Wa a) (hq : q = true → q1 = true ∧ q2 = true) : Fr Wa q H H2 where
  keep := fun a o h n => g.keep a o (f.keep a o h n) fun z => n (s a z)
  dom := fun a h => g.dom a (f.dom a h)
  ex := fun h => (f.ex (hq h).1).trans (g.ex (hq h).2)
theorem Fr.lose {q : Bool} (f : Fr Wa q H H') : Fr Wa false H H' := ⟨f.keep, f.dom, fun z => nomatch z⟩

/-- the value of an expression -/
def Res (Ox : OS) (H0 : Hp) (M Wa : OS) (σ : L2.St) (H : Hp) (env : Env) : Val → V → Hp → Prop
  | (.sh, d), v, H' => EvR Ox H0 M env σ H' ∧ Rp H' (All Ox env σ) v d
  | (.bo, d), v, H' => EvR Ox H0 M env σ H' ∧ RpT H' (All Ox env σ) v d
  | (.fr, d), v, H' => ∃ p, v = .ref p ∧ (H p = none ∨ Wa p) ∧ H0 p = none ∧ EvR (plus Ox p) H0 M env σ H' ∧ OwnT H' (All (plus Ox p) env σ) p d
  | (.mu i, d), v, H' => EvR Ox H0 M env σ H' ∧ σ[i]? = some (some v) ∧ ∃ m, getS env i = some (m, d) ∧ m ≠ .sh
/-- what is known of it while others are evaluated -/
def Hold (O : OS) (Ox : OS) (σ : L2.St) (H : Hp) : Val → V → Prop
  | (.sh, d), v => Rp H O v d
  | (.bo, d), v => RpT H O v d
  | (.fr, d), v => ∃ p, v = .ref p ∧ Ox p ∧ OwnT H O p d
  | (.mu i, _), v => σ[i]? = some (some v)
theorem Res.ev {r : Val} {v : V} (h : Res Ox H0 M Wa σ H env r v H1) : ∃ Ox1, (∀ a, Ox a → Ox1 a) ∧ (∀ a, Ox1 a → Ox a ∨ H a = none ∨ Wa a) ∧ EvR Ox1 H0 M env σ H1 ∧ Hold (All Ox1 env σ) Ox1 σ H1 r v := by
  obtain ⟨m, d⟩ := r
  cases m with
  | sh => exact ⟨Ox, fun _ z => z, fun _ z => .inl z, h.1, h.2⟩
  | bo => exact ⟨Ox, fun _ z => z, fun _ z => .inl z, h.1, h.2⟩
  | mu i => exact ⟨Ox, fun _ z => z, fun _ z => .inl z, h.1, h.2.1⟩
  | fr =>
    obtain ⟨p, e, hp, _, hv, ho⟩ := h
    exact ⟨plus Ox p, fun _ z => .inl z, fun a z => z.imp id fun z => by rw [z]; exact hp, hv, p, e, .inr rfl, ho⟩
theorem Res.less {r : Val} {v : V} (h : Res Ox1 H0 M Wb σ H1 env r v H') (s : ∀ a, Ox a → Ox1 a) (n : ∀ a, H1 a = none → H a = none) (w : ∀ a, Wb a → Wa a) : Res Ox H0 M Wa σ H env r v H' := by
  obtain ⟨m, d⟩ := r
  cases m with
  | sh => exact ⟨h.1.less s, h.2.go (Goes1.less fun a z => z.imp (s a) id)⟩
  | bo => exact ⟨h.1.less s, h.2.go (Goes1.less fun a z => z.imp (s a) id) fun _ _ _ q => q⟩
  | mu i => exact ⟨h.1.less s, h.2⟩
  | fr =>
    obtain ⟨p, e, hp, h0, hv, ho⟩ := h
    have s' : ∀ a, plus Ox p a → plus Ox1 p a := fun a z => z.imp (s a) id
    exact ⟨p, e, hp.imp (n p) (w p), h0, hv.less s', ho.go (Goes1.less fun a z => z.imp (s' a) id) fun o q => q⟩
/-- looked at, behind the evaluation of others -/
theorem Hold.top {O2 : OS} {q : Bool} {r : Val} {v : V} {d : D} (h : Hold (All Ox env σ) Ox σ H r v) (e : EvR Ox H0 M env σ H) (hr : rdy r = some d) (f : Fr (WA env σ) q H H2) (hb : inp r = true → q = true)
    (s : ∀ a, O2 a → All Ox env σ a ∨ H a = none) : RpT H2 O2 v d := by
  have g : Goes1 H H2 (All Ox env σ) O2 := ⟨fun a o h n => f.keep a o h fun z => n (.inr z), s⟩
  obtain ⟨m, d'⟩ := r
  cases m with
  | sh => cases hr; exact (Rp.go g h).top
  | bo => cases hr; exact RpT.go g (fun a o _ k => f.ex (hb rfl) a o k) h
  | mu i => cases hr
  | fr =>
    cases hr
    obtain ⟨p, rfl, hp, ho⟩ := h
    exact OwnT.top (ho.go g fun o k => f.keep p o k fun z => (e.owa z).1 hp)
/-- kept, behind the evaluation of others -/
theorem Hold.rp {O2 : OS} {q : Bool} {r : Val} {v : V} {d : D} (h : Hold (All Ox env σ) Ox σ H r v) (e : EvR Ox H0 M env σ H) (hr : low r = some d) (f : Fr (WA env σ) q H H2)
    (s : ∀ a, O2 a → All Ox env σ a ∨ H a = none) (n : r.1 = .fr → ∀ p, v = .ref p → ¬ O2 p) : Rp H2 O2 v d := by
  have g : Goes1 H H2 (All Ox env σ) O2 := ⟨fun a o h n => f.keep a o h fun z => n (.inr z), s⟩
  obtain ⟨m, d'⟩ := r
  cases m with
  | sh => cases hr; exact Rp.go g h
  | bo => cases hr
  | mu i => cases hr
  | fr =>
    cases hr
    obtain ⟨p, rfl, hp, ho⟩ := h
    exact OwnT.rp (ho.go g fun o k => f.keep p o k fun z => (e.owa z).1 hp) (n rfl p rfl)
end

/-! ### readings -/
structure Mo where
  W : WX
  XR : Hp → OS → D → Value → Option Addr → Prop
  mono : ∀ H O O' x c dx, (∀ a, O' a → O a) → XR H O x c dx → XR H O' x c dx

def PostG {α β : Type} (μ : Mo) (Ox : OS) (H0 : Hp) (M Wa : OS) (q : Bool) (σ : L2.St) (H : Hp) (Rs : Env → α → β → Hp → Prop) (Q : β → Hp → Prop) : R α → Prop
  | .ok r env' => ∀ v H', Fr Wa q H H' → (∀ a, WA env' σ a → Wa a) → Rs env' r v H' → Q v H'
  | .exc x env' => ∀ cls dx H', Fr Wa false H H' → (∀ a, WA env' σ a → Wa a) → EvR Ox H0 M env' σ H' → μ.XR H' (All Ox env' σ) x cls dx → μ.W cls dx σ H'
  | .stuck => False
abbrev PostE (μ : Mo) (Ox : OS) (H0 : Hp) (M Wa : OS) (q : Bool) (σ : L2.St) (H : Hp) (Q : VK) : R Val → Prop :=
  PostG μ Ox H0 M Wa q σ H (fun env r v H' => Res Ox H0 M Wa σ H env r v H') Q

section
variable {μ : Mo} {Ox Ox1 : OS} {H0 H H' H1 H2 : Hp} {M Wa Wb : OS} {env env1 env2 : Env} {σ : L2.St}
theorem PostG.bind {α α' β β' : Type} {q qa : Bool} {Rs : Env → α → β → Hp → Prop} {Rs' : Env → α' → β' → Hp → Prop} {Q : β → Hp → Prop} {Q' : β' → Hp → Prop} {m : R α'} {k : α' → Env → R α}
    (h : PostG μ Ox H0 M Wa q σ H Rs Q (m.bind k))
    (hk : ∀ r env1 v H1, m = .ok r env1 → Fr Wa qa H H1 → (∀ a, WA env1 σ a → Wa a) → Rs' env1 r v H1 → PostG μ Ox H0 M Wa q σ H Rs Q (k r env1) → Q' v H1) : PostG μ Ox H0 M Wa qa σ H Rs' Q' m := by
  cases m with
  | ok r env1 => exact fun v H1 f s r1 => hk r env1 v H1 rfl f s r1 h
  | exc x env1 => exact h
  | stuck => exact h.elim
theorem PostG.rebase {α β : Type} {q qa qb : Bool} {Rs Rs1 : Env → α → β → Hp → Prop} {Q : β → Hp → Prop} {m : R α} (h : PostG μ Ox H0 M Wa q σ H Rs Q m) (f : Fr Wa qa H H1) (s : ∀ a, WA env1 σ a → Wa a) (so : ∀ a, Ox a → Ox1 a)
    (hq : q = true → qa = true ∧ qb = true) (hr : ∀ env r v H', (∀ a, H1 a = none → H a = none) → Rs1 env r v H' → Rs env r v H') : PostG μ Ox1 H0 M (WA env1 σ) qb σ H1 Rs1 Q m := by
  cases m with
  | ok r env2 => exact fun v H' f' s' r' => h v H' (f.trans f' s hq) (fun a z => s a (s' a z)) (hr _ _ _ _ (fun a z => f.none_back z) r')
  | exc x env2 => exact fun cls dx H' f' s' e' x' => h cls dx H' (f.lose.trans f' s fun z => nomatch z) (fun a z => s a (s' a z)) (e'.less so) (μ.mono _ _ _ _ _ _ (fun a z => z.imp (so a) id) x')
  | stuck => exact h.elim
theorem PostE.rebase {q qa qb : Bool} {Q : VK} {m : R Val} (h : PostE μ Ox H0 M Wa q σ H Q m) (f : Fr Wa qa H H1) (s : ∀ a, WA env1 σ a → Wa a) (so : ∀ a, Ox a → Ox1 a)
    (hq : q = true → qa = true ∧ qb = true) : PostE μ Ox1 H0 M (WA env1 σ) qb σ H1 Q m :=
  PostG.rebase h f s so hq fun env r v H' n hr => hr.less so n s
/-- the operation's own value goes out -/
theorem glue {q : Bool} {Q : VK} {r : Val} (h : PostE μ Ox H0 M Wa q σ H Q (.ok r env2)) (f : Fr Wa q H H2) (s : ∀ a, WA env2 σ a → Wa a) (e : EvR Ox H0 M env2 σ H2) (hm : r.1 = .sh ∨ r.1 = .fr) : VPost (All Ox env2 σ) H2 Q r := by
  obtain ⟨m, d⟩ := r
  cases m with
  | sh => exact fun v H' x rv => h v H' (f.trans (x.fr (Wa := Wa) (q := true)) (fun _ z => z) fun z => ⟨z, rfl⟩) s ⟨e.ex x, rv⟩
  | fr =>
    refine fun p H' hp x ho => h _ H' (f.trans (x.fr (Wa := Wa) (q := true)) (fun _ z => z) fun z => ⟨z, rfl⟩) s ⟨p, rfl, .inl (f.none_back hp), e.back hp, e.add hp x ho.some, ho.go (Goes1.less fun a z => ?_) fun o k => k⟩
    rcases z with (z | z) | z
    · exact .inl (.inl z)
    · exact .inr z
    · exact .inl (.inr z)
  | bo => rcases hm with z | z <;> cases z
  | mu i => rcases hm with z | z <;> cases z
theorem PostG.nostuck {α β : Type} {q : Bool} {Rs : Env → α → β → Hp → Prop} {Q : β → Hp → Prop} (h : PostG μ Ox H0 M Wa q σ H Rs Q (.stuck : R α)) : False := h
end

def rdE (μ : Mo) (C : Calls) (e : E) : TE := fun σ H Q => ∃ Ox H0 M env, EvR Ox H0 M env σ H ∧ PostE μ Ox H0 M (WA env σ) e.quiet σ H Q (evE C e env)
def rdT (μ : Mo) (C : Calls) (e : E) : TT := fun σ H Q => ∃ Ox H0 M env, EvR Ox H0 M env σ H ∧
  PostE μ Ox H0 M (WA env σ) e.quiet σ H (fun v H' => ∃ b, v = .bl b ∧ Q b H') (evE C e env)
end En
end

section
set_option Elab.async false
set_option linter.all false
set_option maxRecDepth 100000
set_option maxHeartbeats 4000000
namespace En
open PySem PySem.Spec L2

/-! ### slots -/
theorem getS_set {env : Env} {i j : Nat} {s : Option (Sm × D)} : getS (setS env i s) j = if j = i ∧ i < env.length then s else getS env j := by
  unfold getS setS
  by_cases h : j = i
  · subst h
    by_cases hl : j < env.length
    · rw [List.getElem?_set_self hl, if_pos ⟨rfl, hl⟩]; cases s <;> rfl
    · rw [List.getElem?_eq_none (by simpa using hl), if_neg (fun z => hl z.2), List.getElem?_eq_none (by simpa using hl)]
  · rw [List.getElem?_set_ne (Ne.symm h), if_neg (fun z => h z.1)]
theorem getS_lt {env : Env} {i : Nat} {s : Sm × D} (h : getS env i = some s) : i < env.length := by
  unfold getS at h
  rcases Nat.lt_or_ge i env.length with k | k
  · exact k
  · rw [List.getElem?_eq_none k] at h; cases h
theorem getS_self {env : Env} {i : Nat} {s : Option (Sm × D)} (h : i < env.length) : getS (setS env i s) i = s := by rw [getS_set, if_pos ⟨rfl, h⟩]
theorem getS_ne {env : Env} {i j : Nat} {s : Option (Sm × D)} (h : j ≠ i) : getS (setS env i s) j = getS env j := by rw [getS_set, if_neg fun z => h z.1]
theorem isOw_ne {env : Env} {i j : Nat} {s : Option (Sm × D)} (h : j ≠ i) : isOw (setS env i s) j = isOw env j := by unfold isOw; rw [getS_ne h]
theorem isOw_sh {env : Env} {i : Nat} {d : D} (h : i < env.length) : isOw (setS env i (some (.sh, d))) i = false := by unfold isOw; rw [getS_self h]
theorem isOw_no {env : Env} {i : Nat} (h : i < env.length) : isOw (setS env i none) i = false := by unfold isOw; rw [getS_self h]
theorem isOw_of {env : Env} {i : Nat} {m : Sm} {d : D} (h : getS env i = some (m, d)) (k : m ≠ .sh) : isOw env i = true := isOw_iff.mpr ⟨m, d, h, k⟩

section
variable {Ox Ox1 : OS} {H0 H H' H1 H2 : Hp} {M Wa Wb : OS} {env env1 env2 : Env} {σ : L2.St} {i : Nat} {d : D} {v : V} {p : Addr}
theorem WA_set_sh (hi : i < env.length) {w : Option V} : ∀ a, WA (setS env i (some (.sh, d))) (σ.set i w) a → WA env σ a := fun a ⟨j, hj, hs⟩ => by
  by_cases e : j = i
  · subst e; rw [isOw_sh hi] at hj; cases hj
  · rw [isOw_ne e] at hj; rw [List.getElem?_set_ne (Ne.symm e)] at hs; exact ⟨j, hj, hs⟩
theorem WA_sh (hi : i < env.length) : ∀ a, WA (setS env i (some (.sh, d))) σ a → WA env σ a := fun a ⟨j, hj, hs⟩ => by
  by_cases e : j = i
  · subst e; rw [isOw_sh hi] at hj; cases hj
  · rw [isOw_ne e] at hj; exact ⟨j, hj, hs⟩
theorem WA_no (hi : i < env.length) : ∀ a, WA (setS env i none) σ a → WA env σ a := fun a ⟨j, hj, hs⟩ => by
  by_cases e : j = i
  · subst e; rw [isOw_no hi] at hj; cases hj
  · rw [isOw_ne e] at hj; exact ⟨j, hj, hs⟩
/-- name = a shared value -/
theorem EvR.put (e : EvR Ox H0 M env σ H) (hi : i < env.length) (r : Rp H (All Ox env σ) v d) : EvR Ox H0 M (setS env i (some (.sh, d))) (σ.set i (some v)) H := by
  have w := WA_set_sh (σ := σ) (d := d) (w := some v) hi
  have g : Goes1 H H (All Ox env σ) (All Ox (setS env i (some (.sh, d))) (σ.set i (some v))) := Goes1.less fun a z => z.imp id (w a)
  have hσ : i < σ.length := by rw [← e.len]; exact hi
  refine ⟨by unfold setS; rw [List.length_set, List.length_set]; exact e.len, fun j d' h => ?_, fun j m d' h k => ?_, fun j k a hj hk sj sk => ?_, e.pres, e.dom, e.mdom⟩
  · by_cases ej : j = i
    · subst ej
      rw [getS_self hi] at h
      cases h
      exact ⟨v, by rw [List.getElem?_set_self hσ], r.go g⟩
    · rw [getS_ne ej] at h
      obtain ⟨u, a, b⟩ := e.sh j d' h
      exact ⟨u, by rw [List.getElem?_set_ne (Ne.symm ej)]; exact a, b.go g⟩
  · by_cases ej : j = i
    · subst ej
      rw [getS_self hi] at h
      cases h
      exact absurd rfl k
    · rw [getS_ne ej] at h
      obtain ⟨a, b, c, n⟩ := e.ow j m d' h k
      exact ⟨a, by rw [List.getElem?_set_ne (Ne.symm ej)]; exact b, c.go g fun o q => q, n⟩
  · have nj : j ≠ i := fun z => by subst z; rw [isOw_sh hi] at hj; cases hj
    have nk : k ≠ i := fun z => by subst z; rw [isOw_sh hi] at hk; cases hk
    rw [isOw_ne nj] at hj
    rw [isOw_ne nk] at hk
    rw [List.getElem?_set_ne (Ne.symm nj)] at sj
    rw [List.getElem?_set_ne (Ne.symm nk)] at sk
    exact e.inj j k a hj hk sj sk
/-- an owned name is given up -/
theorem EvR.freeze (e : EvR Ox H0 M env σ H) {m : Sm} (h : getS env i = some (m, d)) (hm : m ≠ .sh) : EvR Ox H0 M (setS env i (some (.sh, d))) σ H ∧ ∃ a, σ[i]? = some (some (.ref a)) ∧ Rp H (All Ox (setS env i (some (.sh, d))) σ) (.ref a) d := by
  have hi := getS_lt h
  obtain ⟨a, sa, oa, na, _⟩ := e.ow i m d h hm
  have w := WA_sh (σ := σ) (d := d) hi
  have g : Goes1 H H (All Ox env σ) (All Ox (setS env i (some (.sh, d))) σ) := Goes1.less fun b z => z.imp id (w b)
  have nA : ¬ All Ox (setS env i (some (.sh, d))) σ a := fun z => by
    rcases z with z | ⟨j, hj, sj⟩
    · exact na z
    · have nj : j ≠ i := fun z => by subst z; rw [isOw_sh hi] at hj; cases hj
      rw [isOw_ne nj] at hj
      exact nj (e.inj j i a hj (isOw_of h hm) sj sa)
  have rr : Rp H (All Ox (setS env i (some (.sh, d))) σ) (.ref a) d := (oa.go g fun o q => q).rp nA
  refine ⟨⟨by unfold setS; rw [List.length_set]; exact e.len, fun j d' h' => ?_, fun j m d' h' k => ?_, fun j k a hj hk sj sk => ?_, e.pres, e.dom, e.mdom⟩, a, sa, rr⟩
  · by_cases ej : j = i
    · subst ej
      rw [getS_self hi] at h'
      cases h'
      exact ⟨.ref a, sa, rr⟩
    · rw [getS_ne ej] at h'
      obtain ⟨u, a, b⟩ := e.sh j d' h'
      exact ⟨u, a, b.go g⟩
  · by_cases ej : j = i
    · subst ej
      rw [getS_self hi] at h'
      cases h'
      exact absurd rfl k
    · rw [getS_ne ej] at h'
      obtain ⟨a, b, c, n⟩ := e.ow j m d' h' k
      exact ⟨a, b, c.go g fun o q => q, n⟩
  · have nj : j ≠ i := fun z => by subst z; rw [isOw_sh hi] at hj; cases hj
    have nk : k ≠ i := fun z => by subst z; rw [isOw_sh hi] at hk; cases hk
    rw [isOw_ne nj] at hj
    rw [isOw_ne nk] at hk
    exact e.inj j k a hj hk sj sk
/-- an owned name's thing is taken out -/
theorem EvR.take (e : EvR Ox H0 M env σ H) (h : getS env i = some (.ow, d)) : ∃ a, σ[i]? = some (some (.ref a)) ∧ WA env σ a ∧ H0 a = none ∧ EvR (plus Ox a) H0 M (setS env i none) σ H ∧ OwnT H (All (plus Ox a) (setS env i none) σ) a d := by
  have hi := getS_lt h
  have hm : Sm.ow ≠ .sh := by decide
  obtain ⟨a, sa, oa, na, h0, _⟩ := e.ow i .ow d h hm
  have w := WA_no (σ := σ) hi
  have wa : WA env σ a := ⟨i, isOw_of h hm, sa⟩
  have g : Goes1 H H (All Ox env σ) (All (plus Ox a) (setS env i none) σ) := Goes1.less fun b z => by
    rcases z with (z | z) | z
    · exact .inl z
    · rw [z]; exact .inr wa
    · exact .inr (w b z)
  refine ⟨a, sa, wa, h0 rfl, ⟨by unfold setS; rw [List.length_set]; exact e.len, fun j d' h' => ?_, fun j m d' h' k => ?_, fun j k b hj hk sj sk => ?_, e.pres, fun b z => ?_, e.mdom⟩, oa.go g fun o q => q⟩
  · by_cases ej : j = i
    · subst ej; rw [getS_self hi] at h'; cases h'
    · rw [getS_ne ej] at h'
      obtain ⟨u, a, b⟩ := e.sh j d' h'
      exact ⟨u, a, b.go g⟩
  · by_cases ej : j = i
    · subst ej; rw [getS_self hi] at h'; cases h'
    · rw [getS_ne ej] at h'
      obtain ⟨b, sb, c, n, r⟩ := e.ow j m d' h' k
      refine ⟨b, sb, c.go g fun o q => q, fun z => ?_, r⟩
      rcases z with z | z
      · exact n z
      · exact ej (e.inj j i a (isOw_of h' k) (isOw_of h hm) (by rw [← z]; exact sb) sa)
  · have nj : j ≠ i := fun z => by subst z; rw [isOw_no hi] at hj; cases hj
    have nk : k ≠ i := fun z => by subst z; rw [isOw_no hi] at hk; cases hk
    rw [isOw_ne nj] at hj
    rw [isOw_ne nk] at hk
    exact e.inj j k b hj hk sj sk
  · rcases z with z | z
    · exact e.dom b z
    · rw [z]; exact oa.some
/-- name = a fresh thing, owned -/
theorem EvR.putOw (e : EvR (plus Ox p) H0 M env σ H) (hi : i < env.length) (nx : ¬ Ox p) (h0 : H0 p = none) (ho : OwnT H (All (plus Ox p) env σ) p d) : EvR Ox H0 M (setS env i (some (.ow, d))) (σ.set i (some (.ref p))) H := by
  have hσ : i < σ.length := by rw [← e.len]; exact hi
  have w : ∀ a, WA (setS env i (some (.ow, d))) (σ.set i (some (.ref p))) a → WA env σ a ∨ a = p := fun a ⟨j, hj, hs⟩ => by
    by_cases ej : j = i
    · subst ej
      rw [List.getElem?_set_self hσ] at hs
      exact .inr (by cases hs; rfl)
    · rw [isOw_ne ej] at hj; rw [List.getElem?_set_ne (Ne.symm ej)] at hs; exact .inl ⟨j, hj, hs⟩
  have g : Goes1 H H (All (plus Ox p) env σ) (All Ox (setS env i (some (.ow, d))) (σ.set i (some (.ref p)))) := Goes1.less fun a z => by
    rcases z with z | z
    · exact .inl (.inl z)
    · rcases w a z with z | z
      · exact .inr z
      · exact .inl (.inr z)
  refine ⟨by unfold setS; rw [List.length_set, List.length_set]; exact e.len, fun j d' h => ?_, fun j m d' h k => ?_, fun j k a hj hk sj sk => ?_, e.pres, fun a z => e.dom a (.inl z), e.mdom⟩
  · by_cases ej : j = i
    · subst ej; rw [getS_self hi] at h; cases h
    · rw [getS_ne ej] at h
      obtain ⟨u, a, b⟩ := e.sh j d' h
      exact ⟨u, by rw [List.getElem?_set_ne (Ne.symm ej)]; exact a, b.go g⟩
  · by_cases ej : j = i
    · subst ej
      rw [getS_self hi] at h
      cases h
      exact ⟨p, by rw [List.getElem?_set_self hσ], ho.go g fun o q => q, nx, fun _ => h0, fun z => nomatch z⟩
    · rw [getS_ne ej] at h
      obtain ⟨a, b, c, n, r⟩ := e.ow j m d' h k
      exact ⟨a, by rw [List.getElem?_set_ne (Ne.symm ej)]; exact b, c.go g fun o q => q, fun z => n (.inl z), r⟩
  · by_cases ej : j = i
    · by_cases ek : k = i
      · rw [ej, ek]
      · exfalso
        subst ej
        rw [List.getElem?_set_self hσ] at sj
        cases sj
        rw [isOw_ne ek] at hk
        rw [List.getElem?_set_ne (Ne.symm ek)] at sk
        exact (e.owa ⟨k, hk, sk⟩).1 (.inr rfl)
    · by_cases ek : k = i
      · exfalso
        subst ek
        rw [List.getElem?_set_self hσ] at sk
        cases sk
        rw [isOw_ne ej] at hj
        rw [List.getElem?_set_ne (Ne.symm ej)] at sj
        exact (e.owa ⟨j, hj, sj⟩).1 (.inr rfl)
      · rw [isOw_ne ej] at hj
        rw [isOw_ne ek] at hk
        rw [List.getElem?_set_ne (Ne.symm ej)] at sj
        rw [List.getElem?_set_ne (Ne.symm ek)] at sk
        exact e.inj j k a hj hk sj sk
/-- an owned thing is changed -/
theorem EvR.write (e : EvR Ox H0 M env σ H) {m : Sm} {d' : D} {a : Addr} (h : getS env i = some (m, d)) (hm : m ≠ .sh) (sa : σ[i]? = some (some (.ref a))) (kp : ∀ b u, b ≠ a → H b = some u → H' b = some u)
    (ho : OwnT H' (All Ox env σ) a d') : EvR Ox H0 M (setS env i (some (m, d'))) σ H' ∧ (∀ b, WA (setS env i (some (m, d'))) σ b ↔ WA env σ b) := by
  have hi := getS_lt h
  have hO : isOw (setS env i (some (m, d'))) i = true := isOw_of (getS_self hi) hm
  have w : ∀ b, WA (setS env i (some (m, d'))) σ b ↔ WA env σ b := fun b => ⟨fun ⟨j, hj, hs⟩ => by
    by_cases ej : j = i
    · subst ej; exact ⟨j, isOw_of h hm, hs⟩
    · rw [isOw_ne ej] at hj; exact ⟨j, hj, hs⟩, fun ⟨j, hj, hs⟩ => by
    by_cases ej : j = i
    · subst ej; exact ⟨j, hO, hs⟩
    · exact ⟨j, by rw [isOw_ne ej]; exact hj, hs⟩⟩
  have wa : WA env σ a := ⟨i, isOw_of h hm, sa⟩
  have g : Goes1 H H' (All Ox env σ) (All Ox (setS env i (some (m, d'))) σ) := ⟨fun b u q n => kp b u (fun z => n (by rw [z]; exact .inr wa)) q, fun b z => .inl (z.imp id (w b).mp)⟩
  have g2 : Goes1 H' H' (All Ox env σ) (All Ox (setS env i (some (m, d'))) σ) := Goes1.less fun b z => z.imp id (w b).mp
  obtain ⟨a', sa', oa, na, r0⟩ := e.ow i m d h hm
  rw [sa] at sa'
  have ea := Option.some.inj (Option.some.inj sa')
  cases ea
  have up : ∀ b, H b ≠ none → H' b ≠ none := fun b hb => by
    by_cases q : b = a
    · rw [q]; exact ho.some
    · intro z
      cases hu : H b with
      | none => exact hb hu
      | some u => rw [kp b u q hu] at z; cases z
  refine ⟨⟨by unfold setS; rw [List.length_set]; exact e.len, fun j d1 h' => ?_, fun j m1 d1 h' k => ?_, fun j k b hj hk sj sk => ?_, fun b u q n => ?_, fun b z => up b (e.dom b z), fun b z => up b (e.mdom b z)⟩, w⟩
  · by_cases ej : j = i
    · subst ej
      rw [getS_self hi] at h'
      cases h'
      exact absurd rfl hm
    · rw [getS_ne ej] at h'
      obtain ⟨u, b, c⟩ := e.sh j d1 h'
      exact ⟨u, b, c.go g⟩
  · by_cases ej : j = i
    · subst ej
      rw [getS_self hi] at h'
      cases h'
      exact ⟨a, sa, ho.go g2 fun o q => q, na, r0⟩
    · rw [getS_ne ej] at h'
      obtain ⟨b, sb, c, n, r⟩ := e.ow j m1 d1 h' k
      refine ⟨b, sb, c.go g fun o q => kp b o (fun z => ?_) q, n, r⟩
      exact ej (e.inj j i a (isOw_of h' k) (isOw_of h hm) (by rw [← z]; exact sb) sa)
  · have ow' : ∀ x, isOw (setS env i (some (m, d'))) x = true → isOw env x = true := fun x hx => by
      by_cases ex : x = i
      · subst ex; exact isOw_of h hm
      · rw [isOw_ne ex] at hx; exact hx
    exact e.inj j k b (ow' j hj) (ow' k hk) sj sk
  · refine kp b u (fun z => ?_) (e.pres b u q n)
    subst z
    cases m with
    | sh => exact hm rfl
    | ow => have := r0.1 rfl; rw [q] at this; cases this
    | mu => exact n (r0.2 rfl)
end

/-! ### names, constants -/
theorem _root_.L2.PE.imp {X : Cx} {e : Expr} {t t' : TE} (h : PE X e t) (k : ∀ σ H Q, t' σ H Q → t σ H Q) : PE X e t' := ⟨fun pins s σ H Q I q => h.run pins s σ H Q I (k σ H Q q)⟩
theorem _root_.L2.PT.imp {X : Cx} {e : Expr} {t t' : TT} (h : PT X e t) (k : ∀ σ H Q, t' σ H Q → t σ H Q) : PT X e t' := ⟨fun pins s σ H Q I q => h.run pins s σ H Q I (k σ H Q q)⟩
theorem _root_.L2.PW.imp {X : Cx} {e : Expr} {t t' : TT} (h : PW X e t) (k : ∀ σ H Q, t' σ H Q → t σ H Q) : PW X e t' := ⟨fun wh pins s σ H Q I q => h.run wh pins s σ H Q I (k σ H Q q)⟩
theorem _root_.L2.PA.imp {X : Cx} {e : List Expr} {t t' : TA} (h : PA X e t) (k : ∀ σ H Q, t' σ H Q → t σ H Q) : PA X e t' := ⟨fun pos pins s σ H Q I q => h.run pos pins s σ H Q I (k σ H Q q)⟩
theorem _root_.L2.PS.imp {X : Cx} {e : Stmt} {t t' : TS} (h : PS X e t) (k : ∀ D σ H, t' D σ H → t D σ H) : PS X e t' := ⟨fun pins s σ H D I q => h.run pins s σ H D I (k D σ H q)⟩
theorem _root_.L2.PSs.imp {X : Cx} {e : List Stmt} {t t' : TS} (h : PSs X e t) (k : ∀ D σ H, t' D σ H → t D σ H) : PSs X e t' := ⟨fun pins s σ H D I q => h.run pins s σ H D I (k D σ H q)⟩

section
variable {μ : Mo} {C : Calls} {σ : L2.St} {H : Hp} {Q : VK} {i : Nat}
theorem rd_var (h : rdE μ C (.var i) σ H Q) : tVar i σ H Q := by
  obtain ⟨Ox, H0, M, env, e, h⟩ := h
  simp only [evE] at h
  split at h
  · rename_i d hg
    obtain ⟨v, hv, r⟩ := e.sh i d hg
    exact ⟨v, hv, h v H (Ex.fr Ex.rfl') (fun _ z => z) ⟨e, r⟩⟩
  · exact h.elim
theorem rd_own (h : rdE μ C (.own i) σ H Q) : tVar i σ H Q := by
  obtain ⟨Ox, H0, M, env, e, h⟩ := h
  simp only [evE] at h
  split at h
  · rename_i d hg
    obtain ⟨v, hv, r⟩ := e.sh i d hg
    exact ⟨v, hv, h v H (Ex.fr Ex.rfl') (fun _ z => z) ⟨e, r⟩⟩
  · rename_i m d hn hg
    have hm : m ≠ .sh := hn
    obtain ⟨a, sa, oa, _⟩ := e.ow i m d hg hm
    exact ⟨_, sa, h _ H (Ex.fr Ex.rfl') (fun _ z => z) ⟨e, oa.top⟩⟩
  · exact h.elim
theorem rd_fz (h : rdE μ C (.fz i) σ H Q) : tVar i σ H Q := by
  obtain ⟨Ox, H0, M, env, e, h⟩ := h
  simp only [evE] at h
  split at h
  · rename_i d hg
    obtain ⟨v, hv, r⟩ := e.sh i d hg
    exact ⟨v, hv, h v H (Ex.fr Ex.rfl') (fun _ z => z) ⟨e, r⟩⟩
  · rename_i d hg
    obtain ⟨e', a, sa, r⟩ := e.freeze hg (by decide)
    exact ⟨_, sa, h _ H (Ex.fr Ex.rfl') (WA_sh (getS_lt hg)) ⟨e', r⟩⟩
  · exact h.elim
theorem rd_mv (h : rdE μ C (.mv i) σ H Q) : tVar i σ H Q := by
  obtain ⟨Ox, H0, M, env, e, h⟩ := h
  simp only [evE] at h
  split at h
  · rename_i d hg
    obtain ⟨a, sa, wa, h0, e', r⟩ := e.take hg
    exact ⟨_, sa, h _ H (Ex.fr Ex.rfl') (WA_no (getS_lt hg)) ⟨a, rfl, .inr wa, h0, e', r⟩⟩
  · exact h.elim
theorem rd_mut (h : rdE μ C (.mut i) σ H Q) : tVar i σ H Q := by
  obtain ⟨Ox, H0, M, env, e, h⟩ := h
  simp only [evE] at h
  split at h
  · rename_i d hg
    obtain ⟨a, sa, _⟩ := e.ow i .ow d hg (by decide)
    exact ⟨_, sa, h _ H (Ex.fr Ex.rfl') (fun _ z => z) ⟨e, sa, .ow, hg, by decide⟩⟩
  · rename_i d hg
    obtain ⟨a, sa, _⟩ := e.ow i .mu d hg (by decide)
    exact ⟨_, sa, h _ H (Ex.fr Ex.rfl') (fun _ z => z) ⟨e, sa, .mu, hg, by decide⟩⟩
  · exact h.elim
/-- a flat constant -/
def flatD : D → Option V
  | .non => some .non
  | .bl b => some (.bl b)
  | .int i => some (.int i)
  | .str x => some (.str x)
  | _ => none
theorem flat_rp {d : D} {v : V} {O : OS} (h : flatD d = some v) : Rp H O v d := by
  cases d with
  | non => cases h; exact .non
  | bl b => cases h; exact .bl b
  | int b => cases h; exact .int b
  | str b => cases h; exact .str b
  | _ => cases h
theorem rd_lit {d : D} {v : V} (hd : flatD d = some v) (h : rdE μ C (.lit d) σ H Q) : tC v σ H Q := by
  obtain ⟨Ox, H0, M, env, e, h⟩ := h
  simp only [evE] at h
  exact h v H (Ex.fr Ex.rfl') (fun _ z => z) ⟨e, flat_rp hd⟩
theorem rd_gl {x : Str} {d : D} {v : V} (hd : flatD d = some v) (h : rdE μ C (.gl x d) σ H Q) : tC v σ H Q := by
  obtain ⟨Ox, H0, M, env, e, h⟩ := h
  simp only [evE] at h
  exact h v H (Ex.fr Ex.rfl') (fun _ z => z) ⟨e, flat_rp hd⟩
end

/-! ### one operand, two operands -/
section
variable {μ : Mo} {C : Calls} {σ : L2.St} {H : Hp} {Q : VK} {a b : E}
theorem mode_map {α : Type} {x : Option α} {f : α → Val} {r : Val} (h : x.map f = some r) (k : ∀ a, (f a).1 = .sh ∨ (f a).1 = .fr) : r.1 = .sh ∨ r.1 = .fr := by
  obtain ⟨a, _, rfl⟩ := Option.map_eq_some_iff.mp h; exact k a
theorem mode_ite {c : Prop} [Decidable c] {x : Val} {r : Val} (h : (if c then some x else none) = some r) (k : x.1 = .sh ∨ x.1 = .fr) : r.1 = .sh ∨ r.1 = .fr := by
  split at h
  · cases h; exact k
  · cases h
theorem mode_bind {α : Type} {x : Option α} {f : α → Option Val} {r : Val} (h : x.bind f = some r) (k : ∀ a r, f a = some r → r.1 = .sh ∨ r.1 = .fr) : r.1 = .sh ∨ r.1 = .fr := by
  obtain ⟨a, _, e⟩ := Option.bind_eq_some_iff.mp h; exact k a r e
theorem mode1 {o : U1} {d : D} {r : Val} (h : op1 o d = some r) : r.1 = .sh ∨ r.1 = .fr := by
  cases o <;> cases d <;> first
    | (cases h; done)
    | (cases h; exact .inl rfl)
    | (cases h; exact .inr rfl)
    | exact mode_map h fun _ => .inl rfl
    | exact mode_ite h (.inl rfl)
    | exact mode_bind h fun _ _ q => mode_ite q (.inl rfl)
theorem mode_ints {f : Int → Int → Option Val} {d e : D} {r : Val} (h : onInts f d e = some r) (k : ∀ i j r, f i j = some r → r.1 = .sh ∨ r.1 = .fr) : r.1 = .sh ∨ r.1 = .fr := by
  cases d <;> cases e <;> first
    | (cases h; done)
    | exact k _ _ r h
theorem mode2 {o : U2} {d e : D} {r : Val} (h : op2 o d e = some r) : r.1 = .sh ∨ r.1 = .fr := by
  cases o with
  | add => cases d <;> cases e <;> first
    | (cases h; done)
    | (cases h; exact .inl rfl)
    | exact mode_ite h (.inl rfl)
    | exact mode_ite h (.inr rfl)
  | sub => exact mode_ints h fun i j r q => by cases q; exact .inl rfl
  | mul => exact mode_ints h fun i j r q => mode_ite q (.inl rfl)
  | fdiv => exact mode_ints h fun i j r q => mode_ite q (.inl rfl)
  | mod => exact mode_ints h fun i j r q => mode_ite q (.inl rfl)
  | pow => exact mode_ints h fun i j r q => mode_ite q (.inl rfl)
  | eq => exact mode_ite h (.inl rfl)
  | ne => exact mode_ite h (.inl rfl)
  | lt => exact mode_ints h fun i j r q => by cases q; exact .inl rfl
  | le => exact mode_ints h fun i j r q => by cases q; exact .inl rfl
  | gt => exact mode_ints h fun i j r q => by cases q; exact .inl rfl
  | max => exact mode_ints h fun i j r q => by cases q; exact .inl rfl
  | min => exact mode_ints h fun i j r q => by cases q; exact .inl rfl
  | ge => cases d <;> cases e <;> first
    | (cases h; done)
    | (cases h; exact .inl rfl)
    | exact mode_bind h fun _ _ q => mode_map q fun _ => .inl rfl
  | inn => cases e <;> first
    | (cases h; done)
    | exact mode_ite h (.inl rfl)
  | nin => cases e <;> first
    | (cases h; done)
    | exact mode_ite h (.inl rfl)
  | idx => cases d <;> cases e <;> first
    | (cases h; done)
    | exact mode_map h fun _ => .inl rfl
    | (simp only [op2, opIdx] at h; split at h; exact mode_map h fun _ => .inl rfl; cases h)
  | index => cases h
theorem rd_un {o : U1} (h : rdE μ C (.un o a) σ H Q) : rdE μ C a σ H fun x H1 => q1 o x H1 Q := by
  obtain ⟨Ox, H0, M, env, e, h⟩ := h
  refine ⟨Ox, H0, M, env, e, PostG.bind (by simp only [evE] at h; exact h) fun r env1 v H1 _ f s rs h1 => ?_⟩
  obtain ⟨Ox1, so, _, e1, hd⟩ := rs.ev
  cases hr : rdy r with
  | none => rw [hr] at h1; exact h1.elim
  | some d =>
    rw [hr] at h1
    cases ho : op1 o d with
    | none => simp only [ho, ofO] at h1; exact h1.elim
    | some w =>
      simp only [ho, ofO] at h1
      have e2 := e1.less so
      refine ⟨All Ox env1 σ, d, w, e2.domA, hd.top e1 hr (Ex.fr Ex.rfl' (q := true)) (fun _ => rfl) (fun a z => .inl (z.imp (so a) id)), ho, glue h1 f s e2 (mode1 ho)⟩
theorem rd_bin {o : U2} (h : rdE μ C (.bin o a b) σ H Q) : rdE μ C a σ H fun x H1 => rdE μ C b σ H1 fun y H2 => q2 o x y H2 Q := by
  obtain ⟨Ox, H0, M, env, e, h⟩ := h
  refine ⟨Ox, H0, M, env, e, PostG.bind (by simp only [evE] at h; exact h) fun r env1 v H1 _ f s rs h1 => ?_⟩
  obtain ⟨Ox1, so, sb, e1, hd⟩ := rs.ev
  refine ⟨Ox1, H0, M, env1, e1, PostG.bind (PostE.rebase (qb := b.quiet) h1 f s so (by simp [E.quiet])) fun r2 env2 w H2 _ f2 s2 rs2 h2 => ?_⟩
  obtain ⟨Ox2, so2, sb2, e2, hd2⟩ := rs2.ev
  split at h2
  · exact h2.elim
  · rename_i hq
    cases hr : rdy r with
    | none => simp only [hr] at h2; exact h2.elim
    | some d =>
      cases hr2 : rdy r2 with
      | none => simp only [hr, hr2] at h2; exact h2.elim
      | some d2 =>
        simp only [hr, hr2] at h2
        cases ho : op2 o d d2 with
        | none => simp only [ho, ofO] at h2; exact h2.elim
        | some z =>
          simp only [ho, ofO] at h2
          have e3 := (e2.less so2)
          refine ⟨All Ox1 env2 σ, d, d2, z, e3.domA, hd.top e1 hr f2 (fun hb => ?_) (fun a z => .inl (z.imp id (s2 a))), hd2.top e2 hr2 (Ex.fr Ex.rfl' (q := true)) (fun _ => rfl) (fun a z => .inl (z.imp (so2 a) id)), ho,
            glue h2 f2 s2 e3 (mode2 ho)⟩
          cases hbq : b.quiet with
          | true => rfl
          | false => exact absurd (by rw [hb, hbq]; rfl) hq
end
end En
end

section
set_option Elab.async false
set_option linter.all false
set_option maxRecDepth 100000
set_option maxHeartbeats 4000000
namespace En
open PySem PySem.Spec L2

theorem Rp.ofBl {H : Hp} {O : OS} {v : V} {b : Bool} (h : Rp H O v (.bl b)) : v = .bl b := by cases h; rfl
theorem Rp.ofInt {H : Hp} {O : OS} {v : V} {b : Int} (h : Rp H O v (.int b)) : v = .int b := by cases h; rfl
theorem Rp.ofStr {H : Hp} {O : OS} {v : V} {b : Str} (h : Rp H O v (.str b)) : v = .str b := by cases h; rfl
theorem Rp.ofNon {H : Hp} {O : OS} {v : V} (h : Rp H O v .non) : v = .non := by cases h; rfl

section
variable {μ : Mo} {C : Calls} {σ : L2.St} {H : Hp} {Q : VK} {a b c : E}

/-! ### slices -/
def rdO (μ : Mo) (C : Calls) : E → TO
  | .nix => tNoPart
  | e => tPart (rdE μ C e)
theorem rd_O {Ox : OS} {H0 : Hp} {M : OS} {env : Env} {Q' : Option Int → Hp → Prop} (e : EvR Ox H0 M env σ H)
    (h : PostG μ Ox H0 M (WA env σ) a.quiet σ H (fun env' o o' H' => o' = o ∧ EvR Ox H0 M env' σ H') Q' (evO (evE C a) a env)) : rdO μ C a σ H Q' := by
  have go : ∀ (h : PostG μ Ox H0 M (WA env σ) a.quiet σ H (fun env' o o' H' => o' = o ∧ EvR Ox H0 M env' σ H') Q' ((evE C a env).bind fun v env => match v with
    | (.sh, .int i) => .ok (some i) env
    | _ => .stuck)), tPart (rdE μ C a) σ H Q' := fun h => by
    refine ⟨Ox, H0, M, env, e, PostG.bind h fun r env1 v H1 hm f s rs h1 => ?_⟩
    split at h1
    · rename_i i
      exact ⟨i, rs.2.ofInt, h1 (some i) H1 f s ⟨rfl, rs.1⟩⟩
    · exact h1.elim
  cases a with
  | nix => exact h none H (Ex.fr Ex.rfl') (fun _ z => z) ⟨rfl, e⟩
  | _ => exact go h
theorem modeS {d : D} {l h : Option Int} {r : Val} (e : opSl d l h = some r) : r.1 = .sh ∨ r.1 = .fr := by
  cases d <;> first
    | (cases e; done)
    | (cases e; exact .inl rfl)
    | (cases e; exact .inr rfl)
    | exact mode_ite e (.inl rfl)
theorem rd_sl (h : rdE μ C (.sl a b c) σ H Q) : tSl qS (rdE μ C a) (rdO μ C b) (rdO μ C c) σ H Q := by
  obtain ⟨Ox, H0, M, env, e, h⟩ := h
  refine ⟨Ox, H0, M, env, e, PostG.bind (by simp only [evE] at h; exact h) fun r env1 v H1 hm f s rs h1 => ?_⟩
  obtain ⟨Ox1, so, sb, e1, hd⟩ := rs.ev
  have hq : (E.sl a b c).quiet = true → a.quiet = true ∧ (b.quiet && c.quiet) = true := by simp [E.quiet]; intro x y z; exact ⟨x, y, z⟩
  refine rd_O e1 (PostG.bind (PostE.rebase (qb := b.quiet && c.quiet) h1 f s so hq) fun l env2 l' H2 hm2 f2 s2 rs2 h2 => ?_)
  obtain ⟨rfl, e2⟩ := rs2
  refine rd_O e2 (PostG.bind (PostE.rebase (qb := c.quiet) h2 f2 s2 (fun _ z => z) (by simp)) fun u env3 u' H3 hm3 f3 s3 rs3 h3 => ?_)
  obtain ⟨rfl, e3⟩ := rs3
  split at h3
  · exact h3.elim
  · rename_i hn
    cases hr : rdy r with
    | none => simp only [hr] at h3; exact h3.elim
    | some d =>
      simp only [hr] at h3
      cases ho : opSl d l' u' with
      | none => simp only [ho, ofO] at h3; exact h3.elim
      | some z =>
        simp only [ho, ofO] at h3
        have f23 : Fr (WA env1 σ) (b.quiet && c.quiet) H1 H3 := f2.trans f3 s2 (by simp)
        refine ⟨All Ox1 env3 σ, d, z, e3.domA, hd.top e1 hr f23 (fun hb => ?_) (fun a z => .inl (z.imp id fun z => s2 a (s3 a z))), ho, glue h3 f3 s3 e3 (modeS ho)⟩
        cases hbq : (b.quiet && c.quiet) with
        | true => rfl
        | false => exact absurd (by rw [hb, hbq]; rfl) hn

/-! ### truth -/
theorem bl_of {Ox : OS} {H0 : Hp} {M Wa : OS} {env : Env} {H' : Hp} {v : V} {b : Bool} (h : Res Ox H0 M Wa σ H env (.sh, .bl b) v H') : v = .bl b ∧ EvR Ox H0 M env σ H' := ⟨h.2.ofBl, h.1⟩
theorem rd_andV (h : rdE μ C (.and a b) σ H Q) : tAndV (rdE μ C a) (rdE μ C b) σ H Q := by
  obtain ⟨Ox, H0, M, env, e, h⟩ := h
  refine ⟨Ox, H0, M, env, e, PostG.bind (by simp only [evE] at h; exact h) fun r env1 v H1 hm f s rs h1 => ?_⟩
  split at h1
  · obtain ⟨rfl, e1⟩ := bl_of rs
    refine ⟨true, rfl, iteT ?_⟩
    exact ⟨Ox, H0, M, env1, e1, PostE.rebase h1 f s (fun _ z => z) (by simp [E.quiet])⟩
  · obtain ⟨rfl, e1⟩ := bl_of rs
    refine ⟨false, rfl, iteF ?_⟩
    exact h1 _ H1 ⟨f.keep, f.dom, fun z => f.ex (by simp [E.quiet] at z; exact z.1)⟩ s ⟨e1, .bl _⟩
  · exact h1.elim
theorem rd_orV (h : rdE μ C (.or a b) σ H Q) : tOrV (rdE μ C a) (rdE μ C b) σ H Q := by
  obtain ⟨Ox, H0, M, env, e, h⟩ := h
  refine ⟨Ox, H0, M, env, e, PostG.bind (by simp only [evE] at h; exact h) fun r env1 v H1 hm f s rs h1 => ?_⟩
  split at h1
  · obtain ⟨rfl, e1⟩ := bl_of rs
    refine ⟨true, rfl, iteT ?_⟩
    exact h1 _ H1 ⟨f.keep, f.dom, fun z => f.ex (by simp [E.quiet] at z; exact z.1)⟩ s ⟨e1, .bl _⟩
  · obtain ⟨rfl, e1⟩ := bl_of rs
    refine ⟨false, rfl, iteF ?_⟩
    exact ⟨Ox, H0, M, env1, e1, PostE.rebase h1 f s (fun _ z => z) (by simp [E.quiet])⟩
  · exact h1.elim
theorem rd_notV (h : rdE μ C (.not a) σ H Q) : tNotV (rdE μ C a) σ H Q := by
  obtain ⟨Ox, H0, M, env, e, h⟩ := h
  refine ⟨Ox, H0, M, env, e, PostG.bind (by simp only [evE] at h; exact h) fun r env1 v H1 hm f s rs h1 => ?_⟩
  split at h1
  · rename_i bb
    obtain ⟨rfl, e1⟩ := bl_of rs
    exact ⟨bb, rfl, h1 _ H1 f s ⟨e1, .bl _⟩⟩
  · exact h1.elim
theorem rdT_and {Q : Bool → Hp → Prop} (h : rdT μ C (.and a b) σ H Q) : tAnd (rdT μ C a) (rdT μ C b) σ H Q := by
  obtain ⟨Ox, H0, M, env, e, h⟩ := h
  refine ⟨Ox, H0, M, env, e, PostG.bind (by simp only [evE] at h; exact h) fun r env1 v H1 hm f s rs h1 => ?_⟩
  split at h1
  · obtain ⟨rfl, e1⟩ := bl_of rs
    refine ⟨true, rfl, iteT ?_⟩
    exact ⟨Ox, H0, M, env1, e1, PostE.rebase h1 f s (fun _ z => z) (by simp [E.quiet])⟩
  · obtain ⟨rfl, e1⟩ := bl_of rs
    refine ⟨false, rfl, iteF ?_⟩
    obtain ⟨b', eb, q⟩ := h1 _ H1 ⟨f.keep, f.dom, fun z => f.ex (by simp [E.quiet] at z; exact z.1)⟩ s ⟨e1, .bl _⟩
    cases eb
    exact q
  · exact h1.elim
theorem rdT_or {Q : Bool → Hp → Prop} (h : rdT μ C (.or a b) σ H Q) : tOr (rdT μ C a) (rdT μ C b) σ H Q := by
  obtain ⟨Ox, H0, M, env, e, h⟩ := h
  refine ⟨Ox, H0, M, env, e, PostG.bind (by simp only [evE] at h; exact h) fun r env1 v H1 hm f s rs h1 => ?_⟩
  split at h1
  · obtain ⟨rfl, e1⟩ := bl_of rs
    refine ⟨true, rfl, iteT ?_⟩
    obtain ⟨b', eb, q⟩ := h1 _ H1 ⟨f.keep, f.dom, fun z => f.ex (by simp [E.quiet] at z; exact z.1)⟩ s ⟨e1, .bl _⟩
    cases eb
    exact q
  · obtain ⟨rfl, e1⟩ := bl_of rs
    refine ⟨false, rfl, iteF ?_⟩
    exact ⟨Ox, H0, M, env1, e1, PostE.rebase h1 f s (fun _ z => z) (by simp [E.quiet])⟩
  · exact h1.elim
theorem rdT_not {Q : Bool → Hp → Prop} (h : rdT μ C (.not a) σ H Q) : tNot (rdT μ C a) σ H Q := by
  obtain ⟨Ox, H0, M, env, e, h⟩ := h
  refine ⟨Ox, H0, M, env, e, PostG.bind (by simp only [evE] at h; exact h) fun r env1 v H1 hm f s rs h1 => ?_⟩
  split at h1
  · rename_i bb
    obtain ⟨rfl, e1⟩ := bl_of rs
    obtain ⟨b', eb, q⟩ := h1 _ H1 f s ⟨e1, .bl _⟩
    cases eb
    exact ⟨bb, rfl, q⟩
  · exact h1.elim
theorem rdT_one {Q : Bool → Hp → Prop} (h : rdT μ C (.one a) σ H Q) : rdT μ C a σ H Q := by
  obtain ⟨Ox, H0, M, env, e, h⟩ := h
  exact ⟨Ox, H0, M, env, e, by simpa only [evE, E.quiet] using h⟩
theorem rd_one (h : rdE μ C (.one a) σ H Q) : rdE μ C a σ H Q := by
  obtain ⟨Ox, H0, M, env, e, h⟩ := h
  exact ⟨Ox, H0, M, env, e, by simpa only [evE, E.quiet] using h⟩
/-- a test by its value -/
theorem rdT_val {Q : Bool → Hp → Prop} (h : rdT μ C a σ H Q) : tB (rdE μ C a) σ H Q := h
theorem rdT_test {Q : Bool → Hp → Prop} (h : rdT μ C a σ H Q) : tTest (rdE μ C a) σ H Q := h
theorem rd_ite (h : rdE μ C (.ite a b c) σ H Q) : tIf (rdT μ C a) (rdE μ C b) (rdE μ C c) σ H Q := by
  obtain ⟨Ox, H0, M, env, e, h⟩ := h
  refine ⟨Ox, H0, M, env, e, PostG.bind (by simp only [evE] at h; exact h) fun r env1 v H1 hm f s rs h1 => ?_⟩
  split at h1
  · obtain ⟨rfl, e1⟩ := bl_of rs
    refine ⟨true, rfl, iteT ?_⟩
    exact ⟨Ox, H0, M, env1, e1, PostE.rebase h1 f s (fun _ z => z) (by simp only [E.quiet, Bool.and_eq_true]; exact fun z => ⟨z.1.1, z.1.2⟩)⟩
  · obtain ⟨rfl, e1⟩ := bl_of rs
    refine ⟨false, rfl, iteF ?_⟩
    exact ⟨Ox, H0, M, env1, e1, PostE.rebase h1 f s (fun _ z => z) (by simp only [E.quiet, Bool.and_eq_true]; exact fun z => ⟨z.1.1, z.2⟩)⟩
  · exact h1.elim
theorem rd_chain {o o' : U2} (h : rdE μ C (.chain o o' a b c) σ H Q) : tChain (q2 o) (q2 o') (rdE μ C a) (rdE μ C b) (rdE μ C c) σ H Q := by
  obtain ⟨Ox, H0, M, env, e, h⟩ := h
  refine ⟨Ox, H0, M, env, e, PostG.bind (by simp only [evE] at h; exact h) fun r env1 v H1 hm f s rs h1 => ?_⟩
  obtain ⟨Ox1, so, sb, e1, hd⟩ := rs.ev
  have hq : (E.chain o o' a b c).quiet = true → a.quiet = true ∧ (b.quiet && c.quiet) = true := by simp [E.quiet]; intro x y z; exact ⟨x, y, z⟩
  refine ⟨Ox1, H0, M, env1, e1, PostG.bind (PostE.rebase (qb := b.quiet && c.quiet) h1 f s so hq) fun r2 env2 w H2 hm2 f2 s2 rs2 h2 => ?_⟩
  obtain ⟨Ox2, so2, sb2, e2, hd2⟩ := rs2.ev
  split at h2
  · rename_i du dv
    have e3 := e2.less so2
    have p1 : RpT H2 (All Ox1 env2 σ) v du := hd.top e1 rfl f2 (fun z => nomatch z) (fun a z => .inl (z.imp id (s2 a)))
    have p2 : RpT H2 (All Ox1 env2 σ) w dv := hd2.top e2 rfl (Ex.fr Ex.rfl' (q := true)) (fun _ => rfl) (fun a z => .inl (z.imp (so2 a) id))
    have p3 : Rp H2 (All Ox1 env2 σ) w dv := Rp.go (Goes1.less fun a z => z.imp (so2 a) id) hd2
    split at h2
    · rename_i ho
      refine ⟨All Ox1 env2 σ, du, dv, _, e3.domA, p1, p2, ho, fun z H3 x3 rz => ⟨true, rz.ofBl, iteT ?_⟩⟩
      have e4 := e3.ex x3
      refine ⟨Ox1, H0, M, env2, e4, PostG.bind (PostE.rebase (qb := c.quiet) h2 (f2.trans (q := b.quiet) (x3.fr (Wa := WA env1 σ) (q := true)) (fun _ z => z) (fun z => ⟨z, rfl⟩)) s2 (fun _ z => z) (by simp)) fun r3 env3 y H4 hm3 f4 s4 rs4 h4 => ?_⟩
      obtain ⟨Ox4, so4, sb4, e5, hd4⟩ := rs4.ev
      split at h4
      · rename_i dw
        cases ho' : op2 o' dv dw with
        | none => simp only [ho', ofO] at h4; exact h4.elim
        | some zz =>
          simp only [ho', ofO] at h4
          have e6 := e5.less so4
          refine ⟨All Ox1 env3 σ, dv, dw, zz, e6.domA, ?_, hd4.top e5 rfl (Ex.fr Ex.rfl' (q := true)) (fun _ => rfl) (fun a z => .inl (z.imp (so4 a) id)), ho', glue h4 f4 s4 e6 (mode2 ho')⟩
          exact (Rp.go ⟨fun a o k n => f4.keep a o k fun z => n (.inr z), fun a z => .inl (z.imp id (s4 a))⟩ (p3.go (Goes1.ex x3))).top
      · exact h4.elim
    · rename_i ho
      refine ⟨All Ox1 env2 σ, du, dv, _, e3.domA, p1, p2, ho, fun z H3 x3 rz => ⟨false, rz.ofBl, iteF ?_⟩⟩
      exact h2 _ H3 (f2.trans (x3.fr (Wa := WA env1 σ) (q := true)) (fun _ z => z) (fun z => ⟨(Bool.and_eq_true _ _ ▸ z).1, rfl⟩)) s2 ⟨e3.ex x3, .bl _⟩
    · exact h2.elim
  · exact h2.elim
end
end En
end

section
set_option Elab.async false
set_option linter.all false
set_option maxRecDepth 100000
set_option maxHeartbeats 4000000
namespace En
open PySem PySem.Spec L2

/-! ### argument lists, displays -/
inductive HoldA (O Ox Ox0 : OS) (σ : L2.St) (H : Hp) : List Val → List V → Prop
  | nil : HoldA O Ox Ox0 σ H [] []
  | cons {r : Val} {v : V} {rs : List Val} {vs : List V} : Hold O Ox σ H r v → inp r = false → (∀ p, r.1 = .fr → v = .ref p → ¬ Ox0 p) → HoldA O Ox Ox0 σ H rs vs → HoldA O Ox Ox0 σ H (r :: rs) (v :: vs)
def ResA (Ox : OS) (H0 : Hp) (M Wa : OS) (σ : L2.St) (H : Hp) (env : Env) (rs : List Val) (vs : List V) (H' : Hp) : Prop :=
  ∃ Ox', (∀ a, Ox a → Ox' a) ∧ (∀ a, Ox' a → Ox a ∨ H a = none ∨ Wa a) ∧ EvR Ox' H0 M env σ H' ∧ HoldA (All Ox' env σ) Ox' Ox σ H' rs vs
def rdA (μ : Mo) (C : Calls) (e : E) : TA := fun σ H Q => ∃ Ox H0 M env, EvR Ox H0 M env σ H ∧
  PostG μ Ox H0 M (WA env σ) e.quiet σ H (fun env' r v H' => ResA Ox H0 M (WA env σ) σ H env' r v H') Q (evA C e env)

section
variable {μ : Mo} {C : Calls} {σ : L2.St} {H : Hp} {Q : VK} {a b : E} {Ox Ox1 : OS} {H0 H' H1 H2 : Hp} {M Wa Wb : OS} {env env1 env2 : Env}
theorem Hold.move {Ox2 : OS} {q : Bool} {r : Val} {v : V} (h : Hold (All Ox env σ) Ox σ H r v) (e : EvR Ox H0 M env σ H) (hb : inp r = false) (f : Fr (WA env σ) q H H2) (so : ∀ a, Ox a → Ox2 a)
    (s : ∀ a, Ox2 a → Ox a ∨ H a = none ∨ WA env σ a) (sw : ∀ a, WA env2 σ a → WA env σ a) : Hold (All Ox2 env2 σ) Ox2 σ H2 r v := by
  have g : Goes1 H H2 (All Ox env σ) (All Ox2 env2 σ) := ⟨fun a o h n => f.keep a o h fun z => n (.inr z), fun a z => by
    rcases z with z | z
    · rcases s a z with z | z | z
      · exact .inl (.inl z)
      · exact .inr z
      · exact .inl (.inr z)
    · exact .inl (.inr (sw a z))⟩
  obtain ⟨m, d⟩ := r
  cases m with
  | sh => exact Rp.go g h
  | bo => cases hb
  | mu i => exact h
  | fr =>
    obtain ⟨p, rfl, hp, ho⟩ := h
    exact ⟨p, rfl, so p hp, ho.go g fun o k => f.keep p o k fun z => (e.owa z).1 hp⟩
theorem HoldA.low {O : OS} : ∀ {rs : List Val} {vs : List V} {ds : List D}, HoldA (All Ox1 env σ) Ox1 Ox σ H rs vs → EvR Ox1 H0 M env σ H → (∀ a, Ox a → Ox1 a) → lows rs = some ds → Rps H (All Ox env σ) vs ds := by
  intro rs
  induction rs with
  | nil => intro vs ds h e so hl; cases h; cases hl; exact .nil
  | cons r rs ih =>
    intro vs ds h e so hl
    cases h with
    | cons h1 hi hn h2 =>
      simp only [lows] at hl
      obtain ⟨d, ed, hl⟩ := Option.bind_eq_some_iff.mp hl
      obtain ⟨ds', es, rfl⟩ := Option.map_eq_some_iff.mp hl
      refine .cons ?_ (ih h2 e so es)
      refine h1.rp e ed (Ex.fr Ex.rfl' (q := true)) (fun a z => .inl (z.imp (so a) id)) fun hf p hp z => ?_
      rcases z with z | z
      · exact hn p hf hp z
      · obtain ⟨m, d'⟩ := r
        simp only at hf
        subst hf
        obtain ⟨p', rfl, hx, _⟩ := h1
        cases hp
        exact (e.owa z).1 hx
theorem rd_nil {Q : List V → Hp → Prop} (h : rdA μ C .nil σ H Q) : tNil σ H Q := by
  obtain ⟨Ox, H0, M, env, e, h⟩ := h
  simp only [evA] at h
  exact h [] H (Ex.fr Ex.rfl') (fun _ z => z) ⟨Ox, fun _ z => z, fun _ z => .inl z, e, .nil⟩
theorem fr_nox {r : Val} {v : V} (e : EvR Ox H0 M env σ H) (h : Res Ox H0 M (WA env σ) σ H env1 r v H1) : ∀ p, r.1 = .fr → v = .ref p → ¬ Ox p := fun p hf hv z => by
  obtain ⟨m, d⟩ := r
  simp only at hf
  subst hf
  obtain ⟨p', rfl, hp, _⟩ := h
  cases hv
  rcases hp with hp | hp
  · exact e.dom p z hp
  · exact (e.owa hp).1 z
theorem rd_cons {Q : List V → Hp → Prop} (h : rdA μ C (.cons a b) σ H Q) : tCons (rdE μ C a) (rdA μ C b) σ H Q := by
  obtain ⟨Ox, H0, M, env, e, h⟩ := h
  refine ⟨Ox, H0, M, env, e, PostG.bind (by simp only [evA] at h; exact h) fun r env1 v H1 hm f s rs h1 => ?_⟩
  obtain ⟨Ox1, so, sb, e1, hd⟩ := rs.ev
  refine ⟨Ox1, H0, M, env1, e1, PostG.bind (PostG.rebase (Ox1 := Ox1) (qb := b.quiet) h1 f s so (by simp [E.quiet]) fun _ _ _ _ _ z => z) fun r2 env2 vs H2 hm2 f2 s2 rs2 h2 => ?_⟩
  split at h2
  · exact h2.elim
  · rename_i hi
    have hi' : inp r = false := by simpa using hi
    obtain ⟨Ox2, so2, sb2, e2, hd2⟩ := rs2
    refine h2 (v :: vs) H2 f2 s2 ⟨Ox2, fun a z => so2 a (so a z), fun a z => ?_, e2, .cons (hd.move e1 hi' f2 so2 sb2 s2) hi' (fr_nox e rs) ?_⟩
    · rcases sb2 a z with z | z | z
      · exact sb a z
      · exact .inr (.inl (f.none_back z))
      · exact .inr (.inr (s a z))
    · clear h2 hm2
      have go : ∀ {rs : List Val} {vs : List V}, HoldA (All Ox2 env2 σ) Ox2 Ox1 σ H2 rs vs → HoldA (All Ox2 env2 σ) Ox2 Ox σ H2 rs vs := by
        intro rs vs h
        induction h with
        | nil => exact .nil
        | cons h1 h2 h3 _ ih => exact .cons h1 h2 (fun p x y z => h3 p x y (so p z)) ih
      exact go hd2
theorem rd_tup (h : rdE μ C (.tup a) σ H Q) : tTup (rdA μ C a) σ H Q := by
  obtain ⟨Ox, H0, M, env, e, h⟩ := h
  refine ⟨Ox, H0, M, env, e, PostG.bind (by simp only [evE] at h; exact h) fun rs env1 vs H1 hm f s r1 h1 => ?_⟩
  obtain ⟨Ox1, so, sb, e1, hd⟩ := r1
  split at h1
  · rename_i ds hl
    have rr := HoldA.low (O := Ox) hd e1 so hl
    split at h1
    · rename_i hz
      have hz' := of_decide_eq_true hz
      exact ⟨by rw [rr.length]; exact hz', VPost.t (glue h1 f s (e1.less so) (.inl rfl)) rr (e1.less so).domA⟩
    · exact h1.elim
  · exact h1.elim
theorem rd_lst (h : rdE μ C (.lst a) σ H Q) : tLst (rdA μ C a) σ H Q := by
  obtain ⟨Ox, H0, M, env, e, h⟩ := h
  refine ⟨Ox, H0, M, env, e, PostG.bind (by simp only [evE] at h; exact h) fun rs env1 vs H1 hm f s r1 h1 => ?_⟩
  obtain ⟨Ox1, so, sb, e1, hd⟩ := r1
  split at h1
  · rename_i ds hl
    have rr := HoldA.low (O := Ox) hd e1 so hl
    split at h1
    · rename_i hz
      have hz' := of_decide_eq_true hz
      exact ⟨by rw [rr.length]; exact hz', VPost.l (glue h1 f s (e1.less so) (.inr rfl)) rr⟩
    · exact h1.elim
  · exact h1.elim

/-! ### calls of defs -/
/-- the arguments as the parameters take them -/
inductive ArgL (O M : OS) (H : Hp) : List Sm → List Val → List V → Env → Prop
  | nil : ArgL O M H [] [] [] []
  | sh {ms : List Sm} {r : Val} {rs : List Val} {v : V} {vs : List V} {d : D} {env : Env} : low r = some d → Rp H O v d → ArgL O M H ms rs vs env → ArgL O M H (.sh :: ms) (r :: rs) (v :: vs) (some (.sh, d) :: env)
  | mu {ms : List Sm} {i : Nat} {d : D} {rs : List Val} {a : Addr} {vs : List V} {env : Env} : O a → M a → OwnT H O a d → ArgL O M H ms rs vs env → ArgL O M H (.mu :: ms) ((.mu i, d) :: rs) (.ref a :: vs) (some (.mu, d) :: env)
/-- what a call leaves -/
structure CallRes (O M : OS) (H : Hp) (r : Val) (fin : Option D) (v : V) (H' : Hp) : Prop where
  pres : ∀ a o, H a = some o → ¬ M a → H' a = some o
  mdom : ∀ a, M a → H' a ≠ none
  res : (∃ d, r = (.sh, d) ∧ Rp H' O v d ∧ ∀ a, M a → ∃ d', fin = some d' ∧ OwnT H' O a d') ∨
    (∃ d p, r = (.fr, d) ∧ v = .ref p ∧ H p = none ∧ OwnT H' (plus O p) p d ∧ ∀ a, M a → ∃ d', fin = some d' ∧ OwnT H' (plus O p) a d')
/-- what a call of a def promises, by the evaluator's word -/
def PostC (μ : Mo) (O M : OS) (H : Hp) (Q : VK) (E : XK) : CR → Prop
  | .ok r fin => (fin = none ↔ ∀ a, ¬ M a) → ∀ v H', CallRes O M H r fin v H' → Q v H'
  | .exc x => (∀ a, ¬ M a) ∧ ∀ cls dx H', Ex H H' → μ.XR H' O x cls dx → E cls dx H'
  | .stuck => False
def spC (μ : Mo) (cr : List Val → CR) (pm : List Sm) : Sp := fun vs H Q E => ∃ O M rs env0, (∀ a, O a → H a ≠ none) ∧ (∀ a, M a → O a) ∧ (∀ a b, M a → M b → a = b) ∧ argS pm rs = some env0 ∧ oneMu pm = true ∧ ArgL O M H pm rs vs env0 ∧
  (pm.contains .mu = false → ∀ a, ¬ M a) ∧ PostC μ O M H Q E (cr rs)

theorem argS_mu : ∀ {pm : List Sm} {rs : List Val} {env0 : Env}, argS pm rs = some env0 → (pm.contains .mu = false ↔ muOf rs = none) := by
  intro pm
  induction pm with
  | nil => intro rs env0 h; cases rs with
    | nil => simp [muOf]
    | cons => cases h
  | cons m pm ih =>
    intro rs env0 h
    cases rs with
    | nil => cases m <;> cases h
    | cons r rs =>
      obtain ⟨md, d⟩ := r
      cases m with
      | sh =>
        simp only [argS] at h
        obtain ⟨d', ed, h⟩ := Option.bind_eq_some_iff.mp h
        obtain ⟨e', ee, rfl⟩ := Option.map_eq_some_iff.mp h
        cases md with
        | mu i => cases ed
        | _ => simpa [muOf] using ih ee
      | ow => cases h
      | mu =>
        cases md with
        | mu i => simp [muOf]
        | _ => cases h
theorem refr_mu (env : Env) : ∀ rs : List Val, muOf (refr env rs) = muOf rs
  | [] => rfl
  | (.mu i, d) :: r => rfl
  | (.sh, d) :: r => refr_mu env r
  | (.fr, d) :: r => refr_mu env r
  | (.bo, d) :: r => refr_mu env r
theorem muOk_of {env : Env} : ∀ {rs : List Val} {i : Nat}, muOk env rs = true → muOf rs = some i → isOw env i = true := by
  intro rs
  induction rs with
  | nil => intro i _ h; cases h
  | cons r rs ih =>
    intro i h1 h2
    obtain ⟨m, d⟩ := r
    cases m with
    | mu j =>
      simp only [muOk, Bool.and_eq_true] at h1
      simp only [muOf, Option.some.injEq] at h2
      rw [← h2]; exact h1.1
    | _ => exact ih h1 h2
theorem arg_ok {pm : List Sm} (e : EvR Ox1 H0 M env σ H) (so : ∀ a, Ox a → Ox1 a) (N : OS) : ∀ {rs : List Val} {vs : List V} {env0 : Env}, HoldA (All Ox1 env σ) Ox1 Ox σ H rs vs → muOk env rs = true →
    (∀ i, muOf rs = some i → ∀ a, σ[i]? = some (some (.ref a)) → N a) → argS pm (refr env rs) = some env0 → oneMu pm = true → ArgL (All Ox env σ) N H pm (refr env rs) vs env0 := by
  induction pm with
  | nil =>
    intro rs vs env0 h _ _ ha _
    cases h with
    | nil => cases ha; exact .nil
    | @cons r v rs vs h1 hi hx h2 => obtain ⟨md, d⟩ := r; cases md <;> cases ha
  | cons m pm ih =>
    intro rs vs env0 h hk hn ha ho
    cases h with
    | nil => cases m <;> cases ha
    | @cons r v rs vs h1 hi hx h2 =>
      obtain ⟨md, d⟩ := r
      cases m with
      | sh =>
        have er : refr env ((md, d) :: rs) = (md, d) :: refr env rs ∧ low (md, d) ≠ none := by
          cases md with
          | mu i => cases ha
          | bo => cases hi
          | sh => exact ⟨rfl, fun z => by cases z⟩
          | fr => exact ⟨rfl, fun z => by cases z⟩
        rw [er.1] at ha ⊢
        simp only [argS] at ha
        obtain ⟨d', ed, ha⟩ := Option.bind_eq_some_iff.mp ha
        obtain ⟨e', ee, rfl⟩ := Option.map_eq_some_iff.mp ha
        have hk' : muOk env rs = true := by cases md <;> first | exact hk | (cases ed; done)
        have hn' : ∀ i, muOf rs = some i → ∀ a, σ[i]? = some (some (.ref a)) → N a := by cases md <;> first | exact hn | (cases ed; done)
        refine .sh ed ?_ (ih h2 hk' hn' ee ho)
        refine h1.rp e ed (Ex.fr Ex.rfl' (q := true)) (fun a z => .inl (z.imp (so a) id)) fun hf p hp z => ?_
        rcases z with z | z
        · exact hx p hf hp z
        · simp only at hf
          subst hf
          obtain ⟨p', rfl, hx', _⟩ := h1
          cases hp
          exact (e.owa z).1 hx'
      | ow => cases md <;> cases ha
      | mu =>
        cases md with
        | mu i =>
          simp only [muOk, Bool.and_eq_true] at hk
          obtain ⟨mm, dd, hg, hm⟩ := isOw_iff.mp hk.1
          have er : refr env ((.mu i, d) :: rs) = (.mu i, dd) :: refr env rs := by simp only [refr, hg]
          rw [er] at ha ⊢
          simp only [argS] at ha
          obtain ⟨e', ee, rfl⟩ := Option.map_eq_some_iff.mp ha
          obtain ⟨a, sa, oa, na, _⟩ := e.ow i mm dd hg hm
          have hv : v = .ref a := by
            have h1' : σ[i]? = some (some v) := h1
            rw [sa] at h1'
            exact (Option.some.inj (Option.some.inj h1')).symm
          subst hv
          have hno : muOf rs = none := by
            have h3 := (argS_mu ee).mp (by simpa [oneMu] using ho)
            rwa [refr_mu] at h3
          have ho' : oneMu pm = true := by
            have : ∀ l : List Sm, l.contains .mu = false → oneMu l = true := by
              intro l
              induction l with
              | nil => intro _; rfl
              | cons x l ihl => intro hl; cases x <;> simp_all [oneMu]
            exact this pm (by simpa [oneMu] using ho)
          refine .mu (.inr ⟨i, hk.1, sa⟩) (hn i rfl a sa) (oa.go (Goes1.less fun b z => z.imp (so b) id) fun o q => q) (ih h2 hk.2 (fun j hj => ?_) ee ho')
          rw [hno] at hj; cases hj
        | _ => cases ha
theorem rd_call {fn : Str} {pm : List Sm} (hC : ∀ rs, C fn rs ≠ .stuck → ∃ env0, argS pm rs = some env0 ∧ oneMu pm = true) (hv : ∀ rs r fin, C fn rs = .ok r fin → r.1 = .sh ∨ r.1 = .fr)
    (h : rdE μ C (.call fn a) σ H Q) : rdA μ C a σ H fun vs H1 => spC μ (C fn) pm (vs ++ []) H1 Q (WE μ.W σ) := by
  obtain ⟨Ox, H0, M, env, e, h⟩ := h
  refine ⟨Ox, H0, M, env, e, PostG.bind (by simp only [evE] at h; exact h) fun rs env1 vs H1 hm f s r1 h1 => ?_⟩
  obtain ⟨Ox1, so, sb, e1, hd⟩ := r1
  rw [List.append_nil]
  split at h1
  · exact h1.elim
  rename_i hbad
  simp only [Bool.or_eq_true, Bool.and_eq_true, Bool.not_eq_true', not_or, not_and] at hbad
  have hmu : muOk env1 rs = true := by simpa using hbad.2
  have e2 := e1.less so
  have hns : C fn (refr env1 rs) ≠ .stuck := fun z => by rw [z] at h1; exact h1.elim
  obtain ⟨env0, ha, ho⟩ := hC _ hns
  let N : OS := fun x => ∃ i, muOf rs = some i ∧ σ[i]? = some (some (.ref x))
  have hN : ∀ x, N x → WA env1 σ x := fun x ⟨i, hi, hx⟩ => ⟨i, muOk_of hmu hi, hx⟩
  have hNe : muOf rs ≠ none → ∃ x, N x := fun hne => by
    cases hi : muOf rs with
    | none => exact absurd hi hne
    | some i =>
      obtain ⟨mm, dd, hg, hmm⟩ := isOw_iff.mp (muOk_of hmu hi)
      obtain ⟨x, sx, _⟩ := e2.ow i mm dd hg hmm
      exact ⟨x, i, hi, sx⟩
  refine ⟨All Ox env1 σ, N, refr env1 rs, env0, e2.domA, fun x hx => .inr (hN x hx), fun x y ⟨i, hi, hx⟩ ⟨j, hj, hy⟩ => ?_, ha, ho, arg_ok e1 so N hd hmu (fun i hi x hx => ⟨i, hi, hx⟩) ha ho, fun hc x ⟨i, hi, _⟩ => ?_, ?_⟩
  · rw [hi] at hj; cases hj; rw [hx] at hy; cases hy; rfl
  · have := (argS_mu ha).mp hc
    rw [refr_mu, hi] at this; cases this
  · have fq : muOf rs ≠ none → (E.call fn a).quiet = false := fun hne => by
      cases hq : a.quiet with
      | false => exact hq
      | true =>
        exfalso
        cases hi : muOf rs with
        | none => exact hne hi
        | some i => exact hbad.1 hq (by rw [hi]; rfl)
    cases hc : C fn (refr env1 rs) with
    | stuck => exact absurd hc hns
    | exc x =>
      rw [hc] at h1
      cases hi : muOf rs with
      | some i => simp only [hi] at h1; exact h1.elim
      | none =>
        simp only [hi] at h1
        have no : ∀ y, ¬ N y := fun y ⟨i, h2, _⟩ => by
          rw [hi] at h2; cases h2
        refine ⟨no, fun cls dx H' x' xr => ?_⟩
        exact h1 cls dx H' (f.lose.trans (x'.fr (Wa := WA env σ) (q := true)) (fun _ z => z) fun z => nomatch z) s (e2.ex x') xr
    | ok r fin =>
      rw [hc] at h1
      have hmode := hv _ r fin hc
      intro hfin v H' cr
      cases fin with
      | none =>
        have nM := hfin.mp rfl
        have hi : muOf rs = none := by
          cases hi : muOf rs with
          | none => rfl
          | some i => obtain ⟨x, hx⟩ := hNe (by rw [hi]; simp); exact absurd hx (nM x)
        simp only [hi] at h1
        have x' : Ex H1 H' := fun b o hb => cr.pres b o hb (nM b)
        refine h1 v H' (f.trans (q := (E.call fn a).quiet) (x'.fr (Wa := WA env σ) (q := true)) (fun _ z => z) fun z => ⟨z, rfl⟩) s ?_
        rcases cr.res with ⟨d, rfl, rv, _⟩ | ⟨d, p, rfl, rfl, hp, ho, _⟩
        · exact ⟨e2.ex x', rv⟩
        · refine ⟨p, rfl, .inl (f.none_back hp), e2.back hp, e2.add hp x' ho.some, ho.go (Goes1.less fun b z => ?_) fun o k => k⟩
          rcases z with (z | z) | z
          · exact .inl (.inl z)
          · exact .inr z
          · exact .inl (.inr z)
      | some d' =>
        have hne : muOf rs ≠ none := fun hi => by
          have : (some d' : Option D) = none := hfin.mpr fun y ⟨i, h2, _⟩ => by rw [hi] at h2; cases h2
          cases this
        obtain ⟨x, hx⟩ := hNe hne
        obtain ⟨i, hi, sx⟩ := hx
        obtain ⟨mm, dd, hg, hmm⟩ := isOw_iff.mp (muOk_of hmu hi)
        simp only [hi, putBack, hg] at h1
        have kp : ∀ b u, b ≠ x → H1 b = some u → H' b = some u := fun b u nb hb => cr.pres b u hb fun ⟨j, hj, sj⟩ => by
          rw [hi] at hj; cases hj; rw [sx] at sj; cases sj; exact nb rfl
        have dm : ∀ b, H1 b ≠ none → H' b ≠ none := fun b hb => by
          by_cases q : b = x
          · rw [q]; exact cr.mdom x ⟨i, hi, sx⟩
          · intro z
            cases hu : H1 b with
            | none => exact hb hu
            | some u => rw [kp b u q hu] at z; cases z
        have wx : WA env1 σ x := ⟨i, muOk_of hmu hi, sx⟩
        have fr2 : Fr (WA env σ) (E.call fn a).quiet H H' := f.trans (q2 := (E.call fn a).quiet) (Wb := WA env1 σ) ⟨fun b o hb nb => kp b o (fun z => nb (by rw [z]; exact wx)) hb, dm, fun z => by rw [fq hne] at z; cases z⟩ s fun z => ⟨z, z⟩
        rcases cr.res with ⟨d, rfl, rv, hm'⟩ | ⟨d, p, rfl, rfl, hp, ho, hm'⟩
        · obtain ⟨d1, e1', o1⟩ := hm' x ⟨i, hi, sx⟩
          cases e1'
          obtain ⟨e3, w3⟩ := e2.write hg hmm sx kp o1
          exact h1 v H' fr2 (fun b z => s b ((w3 b).mp z)) ⟨e3, rv.go (Goes1.less fun b z => z.imp id (w3 b).mp)⟩
        · obtain ⟨d1, e1', o1⟩ := hm' x ⟨i, hi, sx⟩
          cases e1'
          -- everything keeps away from p
          have nxp : x ≠ p := fun z => by rw [z] at wx; exact (e2.owa wx).2 hp
          have e2p : EvR (plus Ox p) H0 M env1 σ (fun b => if b = p then H' p else H1 b) := e2.add hp (fun b o hb => by
            show (if b = p then H' p else H1 b) = some o
            rw [if_neg (fun z => by rw [z, hp] at hb; cases hb)]; exact hb) (by show (if p = p then H' p else H1 p) ≠ none; rw [if_pos rfl]; exact ho.some)
          have kp2 : ∀ b u, b ≠ x → (if b = p then H' p else H1 b) = some u → H' b = some u := fun b u nb hb => by
            by_cases q : b = p
            · rw [if_pos q] at hb; rw [q]; exact hb
            · rw [if_neg q] at hb; exact kp b u nb hb
          have go1 : ∀ b, All (plus Ox p) env1 σ b → plus (All Ox env1 σ) p b := fun b z => by
            rcases z with (z | z) | z
            · exact .inl (.inl z)
            · exact .inr z
            · exact .inl (.inr z)
          obtain ⟨e3, w3⟩ := e2p.write (H' := H') hg hmm sx kp2 (o1.go (Goes1.less go1) fun o k => k)
          exact h1 _ H' fr2 (fun b z => s b ((w3 b).mp z)) ⟨p, rfl, .inl (f.none_back hp), e2.back hp, e3, ho.go (Goes1.less fun b z => go1 b (z.imp id (w3 b).mp)) fun o k => k⟩
end
end En
end

section
set_option Elab.async false
set_option linter.all false
set_option maxRecDepth 100000
set_option maxHeartbeats 4000000
namespace En
open PySem PySem.Spec L2

/-! ### what is walked -/
structure Turns (J : It) (xs : List D) (H : Hp) (O : OS) : Prop where
  go : ∀ i d, xs[i]? = some d → J.go i H ∧ ∀ x H', J.yld i H x H' → Ex H H' ∧ Rp H' O x d
  stop : ∀ i, xs.length ≤ i → J.stop i H
def Walks (J : It) (xs : List D) (Hs : Hp) (Wa Os : OS) : Prop := ∀ (H : Hp) (O : OS), (∀ a o, Hs a = some o → ¬ Wa a → H a = some o) → (∀ a, O a → Os a ∨ Hs a = none) → (∀ a, O a → H a ≠ none) → Turns J xs H O
def RsI (Ox : OS) (H0 : Hp) (M Wa : OS) (σ : L2.St) (H : Hp) (env : Env) (xs : List D) (J : It) (H' : Hp) : Prop :=
  ∃ Ox', (∀ a, Ox a → Ox' a) ∧ (∀ a, Ox' a → Ox a ∨ H a = none ∨ Wa a) ∧ EvR Ox' H0 M env σ H' ∧ Walks J xs H' (WA env σ) (All Ox' env σ)
def rdI (μ : Mo) (C : Calls) (k : ItK) (a b : E) : TI := fun σ H R => ∃ Ox H0 M env, EvR Ox H0 M env σ H ∧
  PostG μ Ox H0 M (WA env σ) (a.quiet && b.quiet) σ H (fun env' r v H' => RsI Ox H0 M (WA env σ) σ H env' r v H') R (evI (evE C a) (evE C b) k env)

/-- a sequence that may be read while others run: its address is not written -/
theorem kept_rd {Hs H : Hp} {Wa : OS} {a : Addr} {u : HO} (k : ∀ a o, Hs a = some o → ¬ Wa a → H a = some o) (n : ¬ Wa a) (h : Rd Hs a u) : Rd H a u := by
  rcases h with h | ⟨o, h⟩
  · exact .inl (k a _ h n)
  · exact .inr ⟨o, k a _ h n⟩

section
variable {K : PySem.W.Frag} {Hs : Hp} {Wa Os : OS} {a b : Addr} {vs ws : List V} {ds es : List D}
theorem goes_of {H : Hp} {O : OS} (sw : ∀ a, Wa a → Os a) (k : ∀ a o, Hs a = some o → ¬ Wa a → H a = some o) (o : ∀ a, O a → Os a ∨ Hs a = none) : Goes1 Hs H Os O := ⟨fun a u h n => k a u h fun z => n (sw a z), o⟩
theorem walk_list (sw : ∀ a, Wa a → Os a) (n : ¬ Wa a) (h : Rd Hs a (.lst vs)) (r : Rps Hs Os vs ds) : Walks (Itl K a) ds Hs Wa Os := fun H O k o _ => by
  have h' : SqL K H a vs := .inl (kept_rd k n h)
  have r' : Rps H O vs ds := r.go (goes_of sw k o)
  refine ⟨fun i d e => ?_, fun i hi => ⟨vs, h', by rw [r.length]; exact hi⟩⟩
  obtain ⟨v, ev, rv⟩ := r'.get e
  refine ⟨⟨vs, v, h', ev⟩, fun x H' y => ?_⟩
  obtain ⟨rfl, y⟩ := y
  have := y vs h'
  rw [ev] at this; cases this
  exact ⟨Ex.rfl', rv⟩
theorem walk_tup (sw : ∀ a, Wa a → Os a) (n : ¬ Wa a) (h : Rd Hs a (.tup vs)) (r : Rps Hs Os vs ds) : Walks (Itt K a) ds Hs Wa Os := fun H O k o _ => by
  have h' : SqT K H a vs := .inl (kept_rd k n h)
  have r' : Rps H O vs ds := r.go (goes_of sw k o)
  refine ⟨fun i d e => ?_, fun i hi => ⟨vs, h', by rw [r.length]; exact hi⟩⟩
  obtain ⟨v, ev, rv⟩ := r'.get e
  refine ⟨⟨vs, v, h', ev⟩, fun x H' y => ?_⟩
  obtain ⟨rfl, y⟩ := y
  have := y vs h'
  rw [ev] at this; cases this
  exact ⟨Ex.rfl', rv⟩
theorem rangeD_get : ∀ (n : Nat) (lo : Int) (i : Nat), (rangeD lo n)[i]? = if i < n then some (.int (lo + i)) else none
  | 0, lo, i => by simp [rangeD]
  | n + 1, lo, 0 => by simp [rangeD]
  | n + 1, lo, i + 1 => by
    simp only [rangeD, List.getElem?_cons_succ, rangeD_get n (lo + 1) i]
    have e : lo + 1 + (i : Int) = lo + ((i + 1 : Nat) : Int) := by omega
    rw [e]
    by_cases h : i < n
    · rw [if_pos h, if_pos (by omega)]
    · rw [if_neg h, if_neg (by omega)]
theorem rangeD_len : ∀ (n : Nat) (lo : Int), (rangeD lo n).length = n
  | 0, _ => rfl
  | n + 1, lo => by simp only [rangeD, List.length_cons, rangeD_len n]
theorem walk_range (lo : Int) (n : Nat) : Walks (Itr lo n) (rangeD lo n) Hs Wa Os := fun H O k o _ => by
  refine ⟨fun i d e => ?_, fun i hi => by rw [rangeD_len] at hi; exact hi⟩
  rw [rangeD_get] at e
  split at e
  · cases e
    refine ⟨by assumption, fun x H' y => ?_⟩
    obtain ⟨rfl, rfl⟩ := y
    exact ⟨Ex.rfl', .int _⟩
  · cases e
theorem enumD_get : ∀ (ds : List D) (n i : Nat), (enumD n ds)[i]? = (ds[i]?).map fun d => .tup [.int ((n + i : Nat) : Int), d]
  | [], n, i => by simp [enumD]
  | d :: ds, n, 0 => by simp [enumD]
  | d :: ds, n, i + 1 => by
    simp only [enumD, List.getElem?_cons_succ, enumD_get ds (n + 1) i]
    have e : n + 1 + i = n + (i + 1) := by omega
    rw [e]
theorem enumD_len : ∀ (ds : List D) (n : Nat), (enumD n ds).length = ds.length
  | [], _ => rfl
  | _ :: ds, n => by simp only [enumD, List.length_cons, enumD_len ds]
theorem walk_enum (sw : ∀ a, Wa a → Os a) (n : ¬ Wa a) (h : Rd Hs a (.lst vs)) (r : Rps Hs Os vs ds) : Walks (Ite K a) (enumD 0 ds) Hs Wa Os := fun H O k o hO => by
  have h' : SqL K H a vs := .inl (kept_rd k n h)
  have r' : Rps H O vs ds := r.go (goes_of sw k o)
  refine ⟨fun i d e => ?_, fun i hi => ⟨vs, h', by rw [r.length]; rw [enumD_len] at hi; exact hi⟩⟩
  rw [enumD_get] at e
  obtain ⟨d', e1, rfl⟩ := Option.map_eq_some_iff.mp e
  obtain ⟨v, ev, rv⟩ := r'.get e1
  refine ⟨⟨vs, v, h', ev⟩, fun x H' y => ?_⟩
  obtain ⟨T, x, rfl, hT, rfl, y⟩ := y
  have := y vs h'
  rw [ev] at this; cases this
  refine ⟨Ex.new hT, .tup (fun z => hO T z hT) (.inl upd_same) (.cons ?_ (.cons (rv.go (Goes1.ex (Ex.new hT))) .nil))⟩
  rw [Nat.zero_add]
  exact .int _
theorem zipD_get : ∀ (ds es : List D) (i : Nat), (zipD ds es)[i]? = (match ds[i]?, es[i]? with | some d, some e => some (.tup [d, e]) | _, _ => none)
  | [], es, i => by simp [zipD]
  | d :: ds, [], i => by simp [zipD]
  | d :: ds, e :: es, 0 => by simp [zipD]
  | d :: ds, e :: es, i + 1 => by simp only [zipD, List.getElem?_cons_succ, zipD_get ds es i]
theorem zipD_len : ∀ (ds es : List D), (zipD ds es).length = min ds.length es.length
  | [], es => by simp [zipD]
  | d :: ds, [] => by simp [zipD]
  | d :: ds, e :: es => by simp only [zipD, List.length_cons, zipD_len ds es]; omega
theorem walk_zip (sw : ∀ a, Wa a → Os a) (n : ¬ Wa a) (h : Rd Hs a (.lst vs)) (r : Rps Hs Os vs ds) (n2 : ¬ Wa b) (h2 : Rd Hs b (.lst ws)) (r2 : Rps Hs Os ws es) : Walks (Itz K a b) (zipD ds es) Hs Wa Os := fun H O k o hO => by
  have h' : SqL K H a vs := .inl (kept_rd k n h)
  have r' : Rps H O vs ds := r.go (goes_of sw k o)
  have h2' : SqL K H b ws := .inl (kept_rd k n2 h2)
  have r2' : Rps H O ws es := r2.go (goes_of sw k o)
  refine ⟨fun i d e => ?_, fun i hi => ⟨vs, ws, h', h2', ?_⟩⟩
  · rw [zipD_get] at e
    split at e
    · rename_i d1 d2 e1 e2
      cases e
      obtain ⟨v, ev, rv⟩ := r'.get e1
      obtain ⟨w, ew, rw'⟩ := r2'.get e2
      refine ⟨⟨vs, ws, v, w, h', h2', ev, ew⟩, fun x H' y => ?_⟩
      obtain ⟨T, x, y', rfl, hT, rfl, y1, y2⟩ := y
      have t1 := y1 vs h'
      rw [ev] at t1; cases t1
      have t2 := y2 ws h2'
      rw [ew] at t2; cases t2
      exact ⟨Ex.new hT, .tup (fun z => hO T z hT) (.inl upd_same) (.cons (rv.go (Goes1.ex (Ex.new hT))) (.cons (rw'.go (Goes1.ex (Ex.new hT))) .nil))⟩
    · cases e
  · rw [zipD_len] at hi
    rw [r.length, r2.length]
    omega
theorem walk_zipT (sw : ∀ a, Wa a → Os a) (n : ¬ Wa a) (h : Rd Hs a (.tup vs)) (r : Rps Hs Os vs ds) (n2 : ¬ Wa b) (h2 : Rd Hs b (.tup ws)) (r2 : Rps Hs Os ws es) : Walks (RZ.ItzT K a b) (zipD ds es) Hs Wa Os := fun H O k o hO => by
  have h' : SqT K H a vs := .inl (kept_rd k n h)
  have r' : Rps H O vs ds := r.go (goes_of sw k o)
  have h2' : SqT K H b ws := .inl (kept_rd k n2 h2)
  have r2' : Rps H O ws es := r2.go (goes_of sw k o)
  refine ⟨fun i d e => ?_, fun i hi => ⟨vs, ws, h', h2', ?_⟩⟩
  · rw [zipD_get] at e
    split at e
    · rename_i d1 d2 e1 e2
      cases e
      obtain ⟨v, ev, rv⟩ := r'.get e1
      obtain ⟨w, ew, rw'⟩ := r2'.get e2
      refine ⟨⟨vs, ws, v, w, h', h2', ev, ew⟩, fun x H' y => ?_⟩
      obtain ⟨T, x, y', rfl, hT, rfl, y1, y2⟩ := y
      have t1 := y1 vs h'
      rw [ev] at t1; cases t1
      have t2 := y2 ws h2'
      rw [ew] at t2; cases t2
      exact ⟨Ex.new hT, .tup (fun z => hO T z hT) (.inl upd_same) (.cons (rv.go (Goes1.ex (Ex.new hT))) (.cons (rw'.go (Goes1.ex (Ex.new hT))) .nil))⟩
    · cases e
  · rw [zipD_len] at hi
    rw [r.length, r2.length]
    omega
theorem walk_chars (x : Str) : Walks (Its x) (chars x) Hs Wa Os := fun H O k o _ => by
  refine ⟨fun i d e => ?_, fun i hi => by simpa [chars, Its] using hi⟩
  simp only [chars, List.getElem?_map] at e
  obtain ⟨c, ec, rfl⟩ := Option.map_eq_some_iff.mp e
  have hi : i < x.cps.size := by
    have := (List.getElem?_eq_some_iff.mp ec).1
    simpa using this
  have ec' : x.cps[i]? = some c := by simpa using ec
  refine ⟨hi, fun v H' y => ?_⟩
  obtain ⟨rfl, c', e1, rfl⟩ := y
  rw [ec'] at e1; cases e1
  exact ⟨Ex.rfl', .str _⟩
theorem walk_rev (sw : ∀ a, Wa a → Os a) (n : ¬ Wa a) (h : Rd Hs a (.lst vs)) (r : Rps Hs Os vs ds) : Walks (Itv K a vs.length) ds.reverse Hs Wa Os := fun H O k o _ => by
  have h' : SqL K H a vs := .inl (kept_rd k n h)
  have r' : Rps H O vs ds := r.go (goes_of sw k o)
  have hl := r.length
  refine ⟨fun i d e => ?_, fun i hi => by show vs.length ≤ i; rw [List.length_reverse] at hi; omega⟩
  have hi : i < ds.length := by
    have := (List.getElem?_eq_some_iff.mp e).1
    simpa using this
  rw [List.getElem?_reverse hi] at e
  obtain ⟨v, ev, rv⟩ := r'.get e
  have ev' : vs[vs.length - 1 - i]? = some v := by rw [hl]; exact ev
  refine ⟨⟨by omega, vs, v, h', ev'⟩, fun x H' y => ?_⟩
  obtain ⟨rfl, y⟩ := y
  have := y vs h'
  rw [ev'] at this; cases this
  exact ⟨Ex.rfl', rv⟩
end

/-! ### the readings of what is walked -/
section
variable {μ : Mo} {C : Calls} {σ : L2.St} {H : Hp} {a b : E} {K : PySem.W.Frag} {Rk : It → Hp → Prop}
theorem _root_.L2.PI.or {X : Cx} {tg it : Expr} {w w' : TI} (h : PI X tg it w) (h' : PI X tg it w') : PI X tg it (fun σ H R => w σ H R ∨ w' σ H R) := ⟨fun pins s σ H R I q => by
  rcases q with q | q
  · exact h.run pins s σ H R I q
  · exact h'.run pins s σ H R I q⟩
theorem _root_.L2.PI.imp {X : Cx} {tg it : Expr} {w w' : TI} (h : PI X tg it w) (k : ∀ σ H R, w' σ H R → w σ H R) : PI X tg it w' := ⟨fun pins s σ H R I q => h.run pins s σ H R I (k σ H R q)⟩
theorem PostG.imp {α β : Type} {Ox : OS} {H0 : Hp} {M Wa : OS} {q : Bool} {Rs : Env → α → β → Hp → Prop} {Q Q' : β → Hp → Prop} {m : R α} (h : PostG μ Ox H0 M Wa q σ H Rs Q m)
    (k : ∀ r env1 v H1, m = .ok r env1 → Fr Wa q H H1 → (∀ a, WA env1 σ a → Wa a) → Rs env1 r v H1 → Q v H1 → Q' v H1) : PostG μ Ox H0 M Wa q σ H Rs Q' m := by
  cases m with
  | ok r env1 => exact fun v H1 f s rs => k r env1 v H1 rfl f s rs (h v H1 f s rs)
  | exc x env1 => exact h
  | stuck => exact h
theorem nowrite {Ox : OS} {H0 : Hp} {M : OS} {env : Env} {r : Val} {p : Addr} {ds : D} (e : EvR Ox H0 M env σ H) (h : Hold (All Ox env σ) Ox σ H r (.ref p)) (hl : low r = some ds) : ¬ WA env σ p := fun z => by
  obtain ⟨m, d⟩ := r
  cases m with
  | sh =>
    cases (show Rp H (All Ox env σ) (.ref p) d from h) with
    | tup n => exact n (.inr z)
    | lst n => exact n (.inr z)
    | dic n => exact n (.inr z)
  | fr =>
    obtain ⟨p', e', hx, _⟩ := h
    cases e'
    exact (e.owa z).1 hx
  | bo => cases hl
  | mu i => cases hl
theorem rdy_low {r : Val} {d : D} (h : low r = some d) : rdy r = some d := by
  obtain ⟨m, d'⟩ := r
  cases m with
  | sh => exact h
  | fr => exact h
  | bo => cases h
  | mu i => cases h
/-- the one value, behind which nothing else is looked at -/
theorem rdI_one {k : ItK} (hk : k.two = false) (hb : b = .nix) (h : rdI μ C k a b σ H Rk) : ∃ Ox H0 M env, EvR Ox H0 M env σ H ∧
    PostE μ Ox H0 M (WA env σ) a.quiet σ H (fun v H1 => ∃ Ox1 env1 r d xs, EvR Ox1 H0 M env1 σ H1 ∧ evE C a env = .ok r env1 ∧ low r = some d ∧ src1 k d = some xs ∧ Hold (All Ox1 env1 σ) Ox1 σ H1 r v ∧
      ∀ J H2, Ex H1 H2 → Walks J xs H2 (WA env1 σ) (All Ox1 env1 σ) → Rk J H2) (evE C a env) := by
  obtain ⟨Ox, H0, M, env, e, h⟩ := h
  subst hb
  refine ⟨Ox, H0, M, env, e, PostG.bind (by simp only [evI] at h; exact h) fun r env1 v H1 hm f s rs h1 => ?_⟩
  obtain ⟨Ox1, so, sb, e1, hd⟩ := rs.ev
  simp only [evE, R.bind_ok] at h1
  cases hr : low r with
  | none => simp only [hr] at h1; exact h1.elim
  | some d =>
    simp only [hr, show low (Md.sh, D.non) = some D.non from rfl, hk, Bool.false_eq_true, if_false] at h1
    cases hs : src1 k d with
    | none => simp only [hs] at h1; exact h1.elim
    | some xs =>
      simp only [hs] at h1
      refine ⟨Ox1, env1, r, d, xs, e1, hm, hr, hs, hd, fun J H2 x w => ?_⟩
      exact h1 J H2 (f.trans (q := a.quiet && E.nix.quiet) (x.fr (Wa := WA env σ) (q := true)) (fun _ z => z) (by simp [E.quiet])) s ⟨Ox1, so, sb, e1.ex x, w⟩
theorem rd_seq (h : rdI μ C .seq a .nix σ H Rk) : iList K (rdE μ C a) σ H Rk ∨ iTup K (rdE μ C a) σ H Rk := by
  obtain ⟨Ox, H0, M, env, e, h⟩ := rdI_one rfl rfl h
  cases hm : evE C a env with
  | stuck => rw [hm] at h; exact h.elim
  | exc x env1 => exact .inl ⟨Ox, H0, M, env, e, by rw [hm] at h ⊢; exact h⟩
  | ok r env1 =>
    rw [hm] at h
    cases hr : low r with
    | none =>
      refine .inl ⟨Ox, H0, M, env, e, ?_⟩
      rw [hm]
      intro v H1 f s rs
      obtain ⟨_, _, r', d, xs, _, e', hl, _⟩ := h v H1 f s rs
      cases e'
      rw [hr] at hl; cases hl
    | some d =>
      cases d with
      | lst ds =>
        refine .inl ⟨Ox, H0, M, env, e, ?_⟩
        rw [hm]
        intro v H1 f s rs
        obtain ⟨Ox1, env2, r', d, xs, e1, e', hl, hs, hd, k⟩ := h v H1 f s rs
        cases e'
        rw [hr] at hl; cases hl
        cases hs
        obtain ⟨p, vs, rfl, hp, rr⟩ := hd.top (O2 := All Ox1 env1 σ) e1 (rdy_low hr) (Ex.fr Ex.rfl' (q := true)) (fun _ => rfl) fun _ z => .inl z
        exact ⟨p, rfl, ⟨vs, .inl hp⟩, k _ H1 Ex.rfl' (walk_list (fun _ z => .inr z) (nowrite e1 hd hr) hp rr)⟩
      | tup ds =>
        refine .inr ⟨Ox, H0, M, env, e, ?_⟩
        rw [hm]
        intro v H1 f s rs
        obtain ⟨Ox1, env2, r', d, xs, e1, e', hl, hs, hd, k⟩ := h v H1 f s rs
        cases e'
        rw [hr] at hl; cases hl
        cases hs
        obtain ⟨p, vs, rfl, n, hp, rr⟩ := RpT.tup (hd.top (O2 := All Ox1 env1 σ) e1 (rdy_low hr) (Ex.fr Ex.rfl' (q := true)) (fun _ => rfl) fun _ z => .inl z)
        exact ⟨p, rfl, ⟨vs, .inl hp⟩, k _ H1 Ex.rfl' (walk_tup (fun _ z => .inr z) (nowrite e1 hd hr) hp rr)⟩
      | _ =>
        refine .inl ⟨Ox, H0, M, env, e, ?_⟩
        rw [hm]
        intro v H1 f s rs
        obtain ⟨_, _, r', d, xs, _, e', hl, hs, _⟩ := h v H1 f s rs
        cases e'
        rw [hr] at hl; cases hl
        cases hs
theorem rd_rng (h : rdI μ C .rng a .nix σ H Rk) : iRng1 (tCons (rdE μ C a) tNil) σ H Rk := by
  obtain ⟨Ox, H0, M, env, e, h⟩ := rdI_one rfl rfl h
  refine ⟨Ox, H0, M, env, e, PostG.imp h fun r env1 v H1 hm f s rs h1 => ?_⟩
  obtain ⟨Ox1, env2, r', d, xs, e1, e', hl, hs, hd, k⟩ := h1
  rw [hm] at e'; cases e'
  cases d with
  | int n =>
    simp only [src1] at hs
    split at hs
    · rename_i hn
      cases hs
      simp only [Bool.and_eq_true, decide_eq_true_eq] at hn
      have hv := RpT.int (hd.top (O2 := All Ox1 env1 σ) e1 (rdy_low hl) (Ex.fr Ex.rfl' (q := true)) (fun _ => rfl) fun _ z => .inl z)
      subst hv
      exact ⟨n, rfl, hn.1, hn.2, k _ H1 Ex.rfl' (walk_range 0 n.toNat)⟩
    · cases hs
  | _ => cases hs
theorem rd_enum (h : rdI μ C .enum a .nix σ H Rk) : iEnum K (tCons (rdE μ C a) tNil) σ H Rk := by
  obtain ⟨Ox, H0, M, env, e, h⟩ := rdI_one rfl rfl h
  refine ⟨Ox, H0, M, env, e, PostG.imp h fun r env1 v H1 hm f s rs h1 => ?_⟩
  obtain ⟨Ox1, env2, r', d, xs, e1, e', hl, hs, hd, k⟩ := h1
  rw [hm] at e'; cases e'
  cases d with
  | lst ds =>
    cases hs
    obtain ⟨p, vs, rfl, hp, rr⟩ := hd.top (O2 := All Ox1 env1 σ) e1 (rdy_low hl) (Ex.fr Ex.rfl' (q := true)) (fun _ => rfl) fun _ z => .inl z
    exact ⟨p, vs, rfl, .inl hp, k _ H1 Ex.rfl' (walk_enum (fun _ z => .inr z) (nowrite e1 hd hl) hp rr)⟩
  | _ => cases hs
theorem rd_rev (h : rdI μ C .rev a .nix σ H Rk) : iRev K (tCons (rdE μ C a) tNil) σ H Rk := by
  obtain ⟨Ox, H0, M, env, e, h⟩ := rdI_one rfl rfl h
  refine ⟨Ox, H0, M, env, e, PostG.imp h fun r env1 v H1 hm f s rs h1 => ?_⟩
  obtain ⟨Ox1, env2, r', d, xs, e1, e', hl, hs, hd, k⟩ := h1
  rw [hm] at e'; cases e'
  cases d with
  | lst ds =>
    cases hs
    obtain ⟨p, vs, rfl, hp, rr⟩ := hd.top (O2 := All Ox1 env1 σ) e1 (rdy_low hl) (Ex.fr Ex.rfl' (q := true)) (fun _ => rfl) fun _ z => .inl z
    exact ⟨p, vs, rfl, .inl hp, k _ H1 Ex.rfl' (walk_rev (fun _ z => .inr z) (nowrite e1 hd hl) hp rr)⟩
  | _ => cases hs
theorem rd_chars (h : rdI μ C .chars a .nix σ H Rk) : iStr (rdE μ C a) σ H Rk := by
  obtain ⟨Ox, H0, M, env, e, h⟩ := rdI_one rfl rfl h
  refine ⟨Ox, H0, M, env, e, PostG.imp h fun r env1 v H1 hm f s rs h1 => ?_⟩
  obtain ⟨Ox1, env2, r', d, xs, e1, e', hl, hs, hd, k⟩ := h1
  rw [hm] at e'; cases e'
  cases d with
  | str x =>
    cases hs
    have hv := RpT.str (hd.top (O2 := All Ox1 env1 σ) e1 (rdy_low hl) (Ex.fr Ex.rfl' (q := true)) (fun _ => rfl) fun _ z => .inl z)
    exact ⟨x, hv, k _ H1 Ex.rfl' (walk_chars x)⟩
  | _ => cases hs
/-- two values -/
theorem rdI_two {k : ItK} (hk : k.two = true) (h : rdI μ C k a b σ H Rk) : rdE μ C a σ H fun v H1 => rdE μ C b σ H1 fun w H2 => ∃ O Wr d d' xs, RpT H2 O v d ∧ RpT H2 O w d' ∧ (∀ p, v = .ref p → ¬ Wr p) ∧ (∀ p, w = .ref p → ¬ Wr p) ∧ (∀ a, Wr a → O a) ∧ src2 k d d' = some xs ∧
      ∀ J, Walks J xs H2 Wr O → Rk J H2 := by
  obtain ⟨Ox, H0, M, env, e, h⟩ := h
  refine ⟨Ox, H0, M, env, e, PostG.bind (by simp only [evI] at h; exact h) fun r env1 v H1 hm f s rs h1 => ?_⟩
  obtain ⟨Ox1, so, sb, e1, hd⟩ := rs.ev
  refine ⟨Ox1, H0, M, env1, e1, PostG.bind (PostG.rebase (Ox1 := Ox1) (qb := b.quiet) h1 f s so (by simp) fun _ _ _ _ _ z => z) fun r2 env2 w H2 hm2 f2 s2 rs2 h2 => ?_⟩
  obtain ⟨Ox2, so2, sb2, e2, hd2⟩ := rs2.ev
  cases hr : low r with
  | none => simp only [hr] at h2; exact h2.elim
  | some d =>
    cases hr2 : low r2 with
    | none => simp only [hr, hr2] at h2; exact h2.elim
    | some d' =>
      simp only [hr, hr2, hk, if_true] at h2
      cases hs : src2 k d d' with
      | none => simp only [hs] at h2; exact h2.elim
      | some xs =>
        simp only [hs] at h2
        have hb : inp r = false := by
          obtain ⟨m, dd⟩ := r
          cases m <;> first | rfl | (cases hr; done)
        have hd' := hd.move e1 hb f2 so2 sb2 s2
        refine ⟨All Ox2 env2 σ, WA env2 σ, d, d', xs, hd'.top e2 (rdy_low hr) (Ex.fr Ex.rfl' (q := true)) (fun _ => rfl) (fun _ z => .inl z), hd2.top e2 (rdy_low hr2) (Ex.fr Ex.rfl' (q := true)) (fun _ => rfl) (fun _ z => .inl z),
          fun p hp => ?_, fun p hp => ?_, fun _ z => .inr z, hs, fun J w => ?_⟩
        · subst hp; exact nowrite e2 hd' hr
        · subst hp; exact nowrite e2 hd2 hr2
        · refine h2 J H2 f2 s2 ⟨Ox2, fun a z => so2 a (so a z), fun a z => ?_, e2, w⟩
          rcases sb2 a z with z | z | z
          · exact sb a z
          · exact .inr (.inl (f.none_back z))
          · exact .inr (.inr (s a z))
theorem rd_rng2 (h : rdI μ C .rng2 a b σ H Rk) : iRng2 (tCons (rdE μ C a) (tCons (rdE μ C b) tNil)) σ H Rk := by
  obtain ⟨Ox, H0, M, env, e, h⟩ := rdI_two rfl h
  refine ⟨Ox, H0, M, env, e, PostG.imp h fun r env1 v H1 hm f s rs h1 => ?_⟩
  obtain ⟨Ox1, H01, M1, env1', e1, h1⟩ := h1
  refine ⟨Ox1, H01, M1, env1', e1, PostG.imp h1 fun r2 env2 w H2 hm2 f2 s2 rs2 h2 => ?_⟩
  obtain ⟨O, Wr, d, d', xs, hv, hw, _, _, _, hs, k⟩ := h2
  cases d with
  | int m => cases d' with
    | int n =>
      simp only [src2] at hs
      split at hs
      · rename_i hn
        cases hs
        simp only [Bool.and_eq_true, decide_eq_true_eq] at hn
        exact ⟨m, n, by rw [hv.int, hw.int], ⟨hn.1.1.1, hn.1.1.2, hn.1.2, hn.2⟩, k _ (walk_range m _)⟩
      · cases hs
    | _ => cases hs
  | _ => cases hs
theorem rd_zip (h : rdI μ C .zip a b σ H Rk) : RZ.iZipA K (tCons (rdE μ C a) (tCons (rdE μ C b) tNil)) σ H Rk := by
  obtain ⟨Ox, H0, M, env, e, h⟩ := rdI_two rfl h
  refine ⟨Ox, H0, M, env, e, PostG.imp h fun r env1 v H1 hm f s rs h1 => ?_⟩
  obtain ⟨Ox1, H01, M1, env1', e1, h1⟩ := h1
  refine ⟨Ox1, H01, M1, env1', e1, PostG.imp h1 fun r2 env2 w H2 hm2 f2 s2 rs2 h2 => ?_⟩
  obtain ⟨O, Wr, d, d', xs, hv, hw, n1, n2, sw, hs, k⟩ := h2
  cases d with
  | lst ds => cases d' with
    | lst es =>
      cases hs
      obtain ⟨p, vs, rfl, hp, rr⟩ := hv
      obtain ⟨p2, ws, rfl, hp2, rr2⟩ := hw
      exact ⟨p, p2, vs, ws, rfl, .inl ⟨.inl hp, .inl hp2, k _ (walk_zip sw (n1 p rfl) hp rr (n2 p2 rfl) hp2 rr2)⟩⟩
    | _ => cases hs
  | tup ds => cases d' with
    | tup es =>
      cases hs
      obtain ⟨p, vs, rfl, _, hp, rr⟩ := hv.tup
      obtain ⟨p2, ws, rfl, _, hp2, rr2⟩ := hw.tup
      exact ⟨p, p2, vs, ws, rfl, .inr ⟨.inl hp, .inl hp2, k _ (walk_zipT sw (n1 p rfl) hp rr (n2 p2 rfl) hp2 rr2)⟩⟩
    | _ => cases hs
  | _ => cases hs
end
end En
end

section
set_option Elab.async false
set_option linter.all false
set_option maxRecDepth 100000
set_option maxHeartbeats 4000000
namespace En
open PySem PySem.Spec L2

/-! ### targets -/
def gsOf : List Nat → TGs
  | [] => gNil
  | i :: is => gCons (gName i) (gsOf is)
def gOf (K : PySem.W.Frag) : Tg → TG
  | .one i => gName i
  | .many is => gTup K is.length (gsOf is)
def tgL : Tg → List Nat
  | .one i => [i]
  | .many is => is
theorem wipe_set {vs : List Nat} {i : Nat} {x : Option V} : ∀ {σ : L2.St}, i ∈ vs → wipe (σ.set i x) vs = wipe σ vs := by
  induction vs with
  | nil => intro σ h; cases h
  | cons v vs ih =>
    intro σ h
    unfold wipe
    by_cases hv : i ∈ vs
    · rw [ih hv]
    · have e : i = v := by
        rcases List.mem_cons.mp h with h | h
        · exact h
        · exact absurd h hv
      subst e
      have c : ∀ (vs : List Nat) (σ : L2.St), i ∉ vs → wipe (σ.set i x) vs = (wipe σ vs).set i x := by
        intro vs
        induction vs with
        | nil => intro σ _; rfl
        | cons w ws ihw =>
          intro σ hn
          unfold wipe
          rw [ihw σ fun z => hn (List.mem_cons_of_mem _ z), List.set_comm _ _ (fun z => hn (by rw [z]; exact List.mem_cons_self))]
      rw [c vs σ hv, List.set_set]
section
variable {K : PySem.W.Frag} {Ox : OS} {H0 : Hp} {M : OS} {env env' : Env} {σ : L2.St} {H : Hp}
theorem bind1_ok {i : Nat} {d : D} {v : V} (e : EvR Ox H0 M env σ H) (r : Rp H (All Ox env σ) v d) (h : bind1 i d env = some env') :
    EvR Ox H0 M env' (σ.set i (some v)) H ∧ ∀ a, WA env' (σ.set i (some v)) a → WA env σ a := by
  unfold bind1 at h
  split at h
  · cases h
  · split at h
    · rename_i hi
      cases h
      exact ⟨e.put hi r, WA_set_sh hi⟩
    · cases h
theorem gs_ok {Qg : L2.St → Hp → Prop} : ∀ {is : List Nat} {vs : List V} {ds : List D} {env : Env} {σ : L2.St}, EvR Ox H0 M env σ H → Rps H (All Ox env σ) vs ds → bindL is ds env = some env' →
    (∀ σ', EvR Ox H0 M env' σ' H → (∀ a, WA env' σ' a → WA env σ a) → (∀ ws, (∀ i ∈ is, i ∈ ws) → wipe σ' ws = wipe σ ws) → Qg σ' H) → gsOf is vs σ H Qg := by
  intro is
  induction is with
  | nil =>
    intro vs ds env σ e r h k
    cases r with
    | nil => cases h; exact ⟨rfl, k σ e (fun _ z => z) fun _ _ => rfl⟩
    | cons => cases h
  | cons i is ih =>
    intro vs ds env σ e r h k
    cases r with
    | nil => cases h
    | @cons v vs d ds r1 r2 =>
      simp only [bindL] at h
      obtain ⟨env1, h1, h2⟩ := Option.bind_eq_some_iff.mp h
      obtain ⟨e1, w1⟩ := bind1_ok e r1 h1
      refine ⟨v, vs, rfl, ih e1 (r2.go (Goes1.less fun a z => z.imp id (w1 a))) h2 fun σ' e' w' hw => k σ' e' (fun a z => w1 a (w' a z)) fun ws hs => ?_⟩
      rw [hw ws fun j hj => hs j (List.mem_cons_of_mem _ hj), wipe_set (hs i List.mem_cons_self)]
theorem g_ok {tg : Tg} {d : D} {v : V} {Qg : L2.St → Hp → Prop} (e : EvR Ox H0 M env σ H) (r : Rp H (All Ox env σ) v d) (h : bindTg tg d env = some env')
    (k : ∀ σ', EvR Ox H0 M env' σ' H → (∀ a, WA env' σ' a → WA env σ a) → (∀ ws, (∀ i ∈ tgL tg, i ∈ ws) → wipe σ' ws = wipe σ ws) → Qg σ' H) : gOf K tg v σ H Qg := by
  cases tg with
  | one i =>
    obtain ⟨e1, w1⟩ := bind1_ok e r h
    exact k _ e1 w1 fun ws hs => wipe_set (hs i (by simp [tgL]))
  | many is =>
    cases d with
    | tup ds =>
      cases r with
      | @tup a vs ds n hr rr =>
        have hl : vs.length = is.length := by
          have : ∀ (is : List Nat) (ds : List D) (env : Env), bindL is ds env = some env' → ds.length = is.length := by
            intro is
            induction is with
            | nil => intro ds env h; cases ds with
              | nil => rfl
              | cons => cases h
            | cons i is ih => intro ds env h; cases ds with
              | nil => cases h
              | cons d ds =>
                simp only [bindL] at h
                obtain ⟨_, _, h2⟩ := Option.bind_eq_some_iff.mp h
                simp only [List.length_cons, ih ds _ h2]
          rw [rr.length]; exact this is ds env h
        exact ⟨a, vs, rfl, .inl hr, hl, gs_ok e rr h k⟩
    | _ => cases h

/-! ### comprehensions -/
theorem getS_wipe {vs : List Nat} {i : Nat} : getS (wipeE env vs) i = if i ∈ vs then none else getS env i := by
  induction vs with
  | nil => simp [wipeE]
  | cons v vs ih =>
    show getS (setS (wipeE env vs) v none) i = _
    rw [getS_set]
    by_cases h : i = v
    · subst h
      by_cases hl : i < (wipeE env vs).length
      · rw [if_pos ⟨rfl, hl⟩, if_pos List.mem_cons_self]
      · have : getS (wipeE env vs) i = none := by
          unfold getS; rw [List.getElem?_eq_none (by omega)]; rfl
        rw [if_neg (fun z => hl z.2), if_pos List.mem_cons_self, this]
    · rw [if_neg (fun z => h z.1), ih]
      by_cases hm : i ∈ vs
      · rw [if_pos hm, if_pos (List.mem_cons_of_mem _ hm)]
      · rw [if_neg hm, if_neg (fun z => (List.mem_cons.mp z).elim h hm)]
theorem wipeE_len (vs : List Nat) : (wipeE env vs).length = env.length := by
  induction vs with
  | nil => rfl
  | cons v vs ih => show ((wipeE env vs).set v none).length = _; rw [List.length_set, ih]
theorem wipe_get {vs : List Nat} {i : Nat} (h : i ∉ vs) : (wipe σ vs)[i]? = σ[i]? := L2.wipe_out h
/-- only the slots that are told count -/
theorem EvR.slots {σ' : L2.St} (e : EvR Ox H0 M env σ H) (hl : σ'.length = σ.length) (hs : ∀ i, getS env i ≠ none → σ'[i]? = σ[i]?) : EvR Ox H0 M env σ' H ∧ ∀ a, WA env σ' a ↔ WA env σ a := by
  have w : ∀ a, WA env σ' a ↔ WA env σ a := fun a => ⟨fun ⟨i, hi, h⟩ => by
    obtain ⟨m, d, hg, _⟩ := isOw_iff.mp hi
    exact ⟨i, hi, by rw [← hs i (by rw [hg]; simp)]; exact h⟩, fun ⟨i, hi, h⟩ => by
    obtain ⟨m, d, hg, _⟩ := isOw_iff.mp hi
    exact ⟨i, hi, by rw [hs i (by rw [hg]; simp)]; exact h⟩⟩
  have g : Goes1 H H (All Ox env σ) (All Ox env σ') := Goes1.less fun a z => z.imp id (w a).mp
  refine ⟨⟨by rw [hl]; exact e.len, fun i d h => ?_, fun i m d h k => ?_, fun i j a hi hj si sj => ?_, e.pres, e.dom, e.mdom⟩, w⟩
  · obtain ⟨v, a, b⟩ := e.sh i d h
    exact ⟨v, by rw [hs i (by rw [h]; simp)]; exact a, b.go g⟩
  · obtain ⟨a, b, c, r⟩ := e.ow i m d h k
    exact ⟨a, by rw [hs i (by rw [h]; simp)]; exact b, c.go g fun o q => q, r⟩
  · obtain ⟨m, d, hg, _⟩ := isOw_iff.mp hi
    obtain ⟨m', d', hg', _⟩ := isOw_iff.mp hj
    exact e.inj i j a hi hj (by rw [← hs i (by rw [hg]; simp)]; exact si) (by rw [← hs j (by rw [hg']; simp)]; exact sj)
/-- names are forgotten -/
theorem EvR.wipes {vs : List Nat} (e : EvR Ox H0 M env σ H) (hv : ∀ i ∈ vs, isOw env i = false) : EvR Ox H0 M (wipeE env vs) σ H ∧ ∀ a, WA (wipeE env vs) σ a ↔ WA env σ a := by
  have ow : ∀ i, isOw (wipeE env vs) i = isOw env i := fun i => by
    unfold isOw
    rw [getS_wipe]
    by_cases h : i ∈ vs
    · rw [if_pos h]
      have := hv i h
      unfold isOw at this
      rw [this]
    · rw [if_neg h]
  have w : ∀ a, WA (wipeE env vs) σ a ↔ WA env σ a := fun a => ⟨fun ⟨i, hi, h⟩ => ⟨i, by rw [← ow]; exact hi, h⟩, fun ⟨i, hi, h⟩ => ⟨i, by rw [ow]; exact hi, h⟩⟩
  have g : Goes1 H H (All Ox env σ) (All Ox (wipeE env vs) σ) := Goes1.less fun a z => z.imp id (w a).mp
  have gs : ∀ i s, getS (wipeE env vs) i = some s → getS env i = some s := fun i s h => by
    rw [getS_wipe] at h
    split at h
    · cases h
    · exact h
  refine ⟨⟨by rw [wipeE_len]; exact e.len, fun i d h => ?_, fun i m d h k => ?_, fun i j a hi hj si sj => ?_, e.pres, e.dom, e.mdom⟩, w⟩
  · obtain ⟨v, a, b⟩ := e.sh i d (gs i _ h)
    exact ⟨v, a, b.go g⟩
  · obtain ⟨a, b, c, r⟩ := e.ow i m d (gs i _ h) k
    exact ⟨a, b, c.go g fun o q => q, r⟩
  · rw [ow] at hi hj
    exact e.inj i j a hi hj si sj
end

/-- a comprehension's block lets nothing out -/
def Mo.in (μ : Mo) : Mo := { μ with W := fun _ _ _ _ => False }

section
variable {μ : Mo} {C : Calls} {σ : L2.St} {H : Hp} {Q : VK} {a b c e : E} {K : PySem.W.Frag} {own : List (Str × Nat)} {tg : Tg} {k : ItK}
theorem wipe_wipe {vs : List Nat} {i : Nat} : i ∈ vs → i < σ.length → (wipe σ vs)[i]? = some none := by
  induction vs with
  | nil => intro h; cases h
  | cons v vs ih =>
    intro h hl
    show ((wipe σ vs).set v none)[i]? = _
    by_cases e : i = v
    · subst e
      rw [List.getElem?_set_self (by rw [wipe_length]; exact hl)]
    · rw [List.getElem?_set_ne (Ne.symm e)]
      exact ih ((List.mem_cons.mp h).resolve_left e) hl
theorem wipe_idem (vs : List Nat) : wipe (wipe σ vs) vs = wipe σ vs := by
  apply List.ext_getElem?
  intro i
  by_cases h : i ∈ vs
  · by_cases hl : i < σ.length
    · rw [wipe_wipe h (by rw [wipe_length]; exact hl), wipe_wipe h hl]
    · rw [List.getElem?_eq_none (by rw [wipe_length, wipe_length]; omega), List.getElem?_eq_none (by rw [wipe_length]; omega)]
  · rw [L2.wipe_out h]
/-- what everyone keeps away from may be written -/
theorem EvR.away {Ox : OS} {H0 : Hp} {M : OS} {env : Env} {p : Addr} {o : HO} (e : EvR Ox H0 M env σ H) (hp : Ox p) (h0 : H0 p = none) : EvR Ox H0 M env σ (upd H p o) ∧ Goes1 H (upd H p o) (All Ox env σ) (All Ox env σ) := by
  have g : Goes1 H (upd H p o) (All Ox env σ) (All Ox env σ) := ⟨fun a u h n => by rw [upd_ne (fun z => n (by rw [z]; exact .inl hp))]; exact h, fun _ z => .inl z⟩
  have dm : ∀ a, H a ≠ none → upd H p o a ≠ none := fun a h => by
    by_cases z : a = p
    · rw [z, upd_same]; simp
    · rw [upd_ne z]; exact h
  refine ⟨⟨e.len, fun i d h => ?_, fun i m d h k => ?_, e.inj, fun a u h n => ?_, fun a h => dm a (e.dom a h), fun a h => dm a (e.mdom a h)⟩, g⟩
  · obtain ⟨v, a, b⟩ := e.sh i d h
    exact ⟨v, a, b.go g⟩
  · obtain ⟨a, b, c, n, r⟩ := e.ow i m d h k
    exact ⟨a, b, c.go g fun o q => by rw [upd_ne (fun z => n (by rw [z]; exact hp))]; exact q, n, r⟩
  · rw [upd_ne (fun z => by rw [z, h0] at h; cases h)]; exact e.pres a u h n
theorem rd_lc (ht : ∀ i ∈ tgL tg, i ∈ own.map (·.2)) (h : rdE μ C (.lc own tg k a b c e) σ H Q) : tLc (rdI μ C k a b) (gOf K tg) (rdT μ.in C c) (rdE μ.in C e) (own.map (·.2)) σ H Q := by
  obtain ⟨Ox, H0, M, env, ev, h⟩ := h
  refine ⟨Ox, H0, M, env, ev, PostG.bind (by simp only [evE] at h; exact h) fun xs env1 J H1 hm f s rs h1 => ?_⟩
  obtain ⟨Ox1, so, sb, e1, wk⟩ := rs
  split at h1
  · exact h1.elim
  rename_i hown
  generalize hvs : own.map (·.2) = vs at *
  have hv : ∀ i ∈ vs, isOw env1 i = false := fun i hi => by
    cases hc : isOw env1 i with
    | false => rfl
    | true => exact absurd (List.any_eq_true.mpr ⟨i, hi, hc⟩) hown
  intro Dl hD
  have h0D : H0 Dl = none := e1.back hD
  obtain ⟨e1w, w1⟩ := e1.wipes hv
  have hno : ∀ j ∈ vs, getS (wipeE env1 vs) j = none := fun j hj => by rw [getS_wipe, if_pos hj]
  obtain ⟨e1s, w2⟩ := e1w.slots (σ' := wipe σ vs) (wipe_length σ vs) fun i hi => by
    by_cases hj : i ∈ vs
    · exact absurd (hno i hj) hi
    · exact L2.wipe_out hj
  refine ⟨fun i m Hc => ∃ et accV accD, m = xs.length - i ∧ i ≤ xs.length ∧ EvR (plus Ox1 Dl) H0 M et (wipe σ vs) Hc ∧ Fr (WA env1 σ) (c.quiet && e.quiet) H1 Hc ∧ (∀ x, WA et (wipe σ vs) x → WA env1 σ x) ∧ (∀ j ∈ vs, getS et j = none) ∧
      Hc Dl = some (.lst accV) ∧ Rps Hc (All (plus Ox1 Dl) et (wipe σ vs)) accV accD ∧
      PostE μ Ox H0 M (WA env σ) (E.lc own tg k a b c e).quiet σ H Q ((lcL (evE C c) (evE C e) tg vs (xs.drop i) accD et).bind fun ds env' => .ok (.fr, .lst ds) env'), ?_, ?_⟩
  · exact ⟨xs.length, wipeE env1 vs, [], [], by omega, Nat.zero_le _, e1s.add hD (Ex.new hD) (by rw [upd_same]; simp), (Ex.new hD).fr, fun x z => (w1 x).mp ((w2 x).mp z), hno, upd_same, .nil, by rw [List.drop_zero]; exact h1⟩
  · rintro i m Hc ⟨et, accV, accD, rfl, hi, ec, fc, wc, nc, hDl, ra, hP⟩
    have T : Turns J xs Hc (All (plus Ox1 Dl) et (wipe σ vs)) := wk Hc _ fc.keep (fun x z => by
      rcases z with (z | z) | z
      · exact .inl (.inl z)
      · exact .inr (by rw [z]; exact hD)
      · exact .inl (.inr (wc x z))) ec.domA
    by_cases hlt : i < xs.length
    · obtain ⟨go, yl⟩ := T.go i xs[i] (List.getElem?_eq_getElem hlt)
      refine .inr ⟨go, _, fun H' hN => ⟨xs.length - (i + 1), by omega, hN⟩, fun x H' y => ?_⟩
      obtain ⟨x', rx⟩ := yl x H' y
      rw [List.drop_eq_getElem_cons hlt, lcL] at hP
      have e2 := ec.ex x'
      cases hb : bindTg tg xs[i] et with
      | none => rw [hb] at hP; exact hP.elim
      | some eb =>
        rw [hb] at hP
        simp only at hP
        refine g_ok e2 rx hb fun σ2 e3 w3 hw3 => ⟨by rw [hw3 vs ht, wipe_idem], ?_⟩
        refine ⟨plus Ox1 Dl, H0, M, eb, e3, ?_⟩
        cases hc : evE C c eb with
        | stuck => rw [hc] at hP; exact hP.elim
        | exc z ez => rw [hc] at hP; exact (hP : False).elim
        | ok r env2 =>
          rw [hc] at hP
          simp only [R.hard_ok, R.bind_ok] at hP
          intro v H3 f3 s3 rs3
          have keepD : ∀ (Wx : OS) (q : Bool) (Ha Hb : Hp) (o : HO), Fr Wx q Ha Hb → (∀ z, Wx z → WA env1 σ z) → Ha Dl = some o → Hb Dl = some o := fun Wx q Ha Hb o fr sw ho => fr.keep Dl o ho fun z => (e1.owa (sw Dl z)).2 hD
          have w13 : ∀ z, WA eb σ2 z → WA env1 σ z := fun z hz => wc z (w3 z hz)
          have fc' : Fr (WA env1 σ) (c.quiet && e.quiet) H1 H' := fc.trans (x'.fr (Wa := WA env1 σ) (q := true)) (fun _ z => z) fun z => ⟨z, rfl⟩
          have hD' : H' Dl = some (.lst accV) := x' _ _ hDl
          have ra' : Rps H' (All (plus Ox1 Dl) et (wipe σ vs)) accV accD := ra.go (Goes1.ex x')
          have gb : Goes1 H' H3 (All (plus Ox1 Dl) et (wipe σ vs)) (All (plus Ox1 Dl) env2 σ2) := ⟨fun y o hy ny => f3.keep y o hy fun z => ny (.inr (w3 y z)), fun y z => .inl (z.imp id fun z => w3 y (s3 y z))⟩
          have ra3 : Rps H3 (All (plus Ox1 Dl) env2 σ2) accV accD := ra'.go gb
          have hD3 : H3 Dl = some (.lst accV) := keepD _ _ _ _ _ f3 w13 hD'
          have f13 : ∀ (q : Bool), (q = true → (c.quiet && e.quiet) = true ∧ c.quiet = true) → Fr (WA env1 σ) q H1 H3 := fun q hq => fc'.trans f3 w13 hq
          have nov : ∀ (ee : Env), (!vs.any (isOw ee)) = true → ∀ i ∈ vs, isOw ee i = false := fun ee hn i hi => by
            cases hc : isOw ee i with
            | false => rfl
            | true =>
              have := List.any_eq_true.mpr ⟨i, hi, hc⟩
              rw [this] at hn; cases hn
          obtain ⟨md, dd⟩ := r
          -- the end of a turn: names are forgotten, the slots are those of the start
          have fin : ∀ (env3 : Env) (H4 : Hp) (accV' : List V) (accD' : List D), EvR (plus Ox1 Dl) H0 M env3 σ2 H4 → (∀ z, WA env3 σ2 z → WA env1 σ z) → Fr (WA env1 σ) (c.quiet && e.quiet) H1 H4 → H4 Dl = some (.lst accV') → Rps H4 (All (plus Ox1 Dl) env3 σ2) accV' accD' → (∀ i ∈ vs, isOw env3 i = false) →
              PostE μ Ox H0 M (WA env σ) (E.lc own tg k a b c e).quiet σ H Q ((lcL (evE C c) (evE C e) tg vs (xs.drop (i + 1)) accD' (wipeE env3 vs)).bind fun ds env' => .ok (.fr, .lst ds) env') →
              ∃ et accV accD, xs.length - (i + 1) = xs.length - (i + 1) ∧ i + 1 ≤ xs.length ∧ EvR (plus Ox1 Dl) H0 M et (wipe σ vs) H4 ∧ Fr (WA env1 σ) (c.quiet && e.quiet) H1 H4 ∧ (∀ x, WA et (wipe σ vs) x → WA env1 σ x) ∧ (∀ j ∈ vs, getS et j = none) ∧
                H4 Dl = some (.lst accV) ∧ Rps H4 (All (plus Ox1 Dl) et (wipe σ vs)) accV accD ∧
                PostE μ Ox H0 M (WA env σ) (E.lc own tg k a b c e).quiet σ H Q ((lcL (evE C c) (evE C e) tg vs (xs.drop (i + 1)) accD et).bind fun ds env' => .ok (.fr, .lst ds) env') :=
            fun env3 H4 accV' accD' e4 w4 f4 hD4 ra4 hv4 hP4 => by
              obtain ⟨e4w, w4w⟩ := e4.wipes hv4
              have hno4 : ∀ j ∈ vs, getS (wipeE env3 vs) j = none := fun j hj => by rw [getS_wipe, if_pos hj]
              have hσ : wipe σ2 vs = wipe σ vs := by rw [hw3 vs ht, wipe_idem]
              obtain ⟨e5, w5⟩ := e4w.slots (σ' := wipe σ vs) (by rw [← hσ]; exact wipe_length σ2 vs) fun i hi => by
                by_cases hj : i ∈ vs
                · exact absurd (hno4 i hj) hi
                · rw [← hσ]; exact L2.wipe_out hj
              exact ⟨wipeE env3 vs, accV', accD', rfl, hlt, e5, f4, fun z hz => w4 z ((w4w z).mp ((w5 z).mp hz)), hno4, hD4, ra4.go (Goes1.less fun z hz => hz.imp id fun hz => (w4w z).mp ((w5 z).mp hz)), hP4⟩
          cases md with
          | sh =>
            cases dd with
            | bl bb =>
              have hvb : v = .bl bb := rs3.2.ofBl
              cases bb with
              | false =>
                refine ⟨false, hvb, iteF ?_⟩
                simp only at hP
                split at hP
                · rename_i hn
                  exact fin env2 H3 accV accD rs3.1 (fun z hz => w13 z (s3 z hz)) (f13 _ fun z => ⟨z, (Bool.and_eq_true _ _ ▸ z).1⟩) hD3 ra3 (nov env2 hn) hP
                · exact hP.elim
              | true =>
                refine ⟨true, hvb, iteT ?_⟩
                refine ⟨plus Ox1 Dl, H0, M, env2, rs3.1, ?_⟩
                simp only at hP
                cases he : evE C e env2 with
                | stuck => rw [he] at hP; exact hP.elim
                | exc z ez => rw [he] at hP; exact (hP : False).elim
                | ok r2 env3 =>
                  rw [he] at hP
                  simp only [R.hard_ok, R.bind_ok] at hP
                  intro y' H4 f4 s4 rs4
                  obtain ⟨Ox4, so4, sb4, e4, hd4⟩ := rs4.ev
                  have e4' := e4.less so4
                  have w24 : ∀ z, WA env2 σ2 z → WA env1 σ z := fun z hz => w13 z (s3 z hz)
                  cases hl : low r2 with
                  | none => rw [hl] at hP; exact hP.elim
                  | some d2 =>
                    rw [hl] at hP
                    simp only at hP
                    split at hP
                    · rename_i hn
                      simp only [Bool.and_eq_true] at hn
                      have hz := of_decide_eq_true hn.1
                      have hlen := ra3.length
                      have hD4 : H4 Dl = some (.lst accV) := keepD _ _ _ _ _ f4 w24 hD3
                      have hry : Rp H4 (All (plus Ox1 Dl) env3 σ2) y' d2 := hd4.rp e4 hl (Ex.fr Ex.rfl' (q := true)) (fun z hz => .inl (hz.imp (so4 z) id)) fun hf p hp hO => by
                        rcases hO with hO | hO
                        · exact fr_nox rs3.1 rs4 p hf hp hO
                        · obtain ⟨m2, dd2⟩ := r2
                          simp only at hf
                          subst hf
                          obtain ⟨p', rfl, hx, _⟩ := hd4
                          cases hp
                          exact (e4.owa hO).1 hx
                      have g34 : Goes1 H3 H4 (All (plus Ox1 Dl) env2 σ2) (All (plus Ox1 Dl) env3 σ2) := ⟨fun z o hz nz => f4.keep z o hz fun q => nz (.inr q), fun z hz => .inl (hz.imp id (s4 z))⟩
                      obtain ⟨e5, g5⟩ := e4'.away (p := Dl) (o := .lst (accV ++ [y'])) (.inr rfl) h0D
                      have f14 : Fr (WA env1 σ) (c.quiet && e.quiet) H1 H4 := (f13 (c.quiet && e.quiet) (fun z => ⟨z, (Bool.and_eq_true _ _ ▸ z).1⟩)).trans f4 w24 fun z => ⟨z, (Bool.and_eq_true _ _ ▸ z).2⟩
                      refine ⟨accV, hD4, by omega, fin env3 _ (accV ++ [y']) (accD ++ [d2]) e5 (fun z hz => w24 z (s4 z hz)) ⟨fun z o hz nz => ?_, fun z hz => ?_, fun hq z o hz => ?_⟩ upd_same ((ra3.go g34).app (.cons hry .nil) |>.go g5) (nov env3 hn.2) hP⟩
                      · rw [upd_ne (fun q => by rw [q, hD] at hz; cases hz)]; exact f14.keep z o hz nz
                      · by_cases q : z = Dl
                        · rw [q, upd_same]; simp
                        · rw [upd_ne q]; exact f14.dom z hz
                      · rw [upd_ne (fun q => by rw [q, hD] at hz; cases hz)]; exact f14.ex hq z o hz
                    · exact hP.elim
            | _ => exact hP.elim
          | _ => exact (hP : False).elim
    · have ei : i = xs.length := by omega
      refine .inl ⟨T.stop i (by omega), ?_⟩
      rw [List.drop_of_length_le (by omega)] at hP
      simp only [lcL, R.bind_ok] at hP
      obtain ⟨e6, w6⟩ := ec.slots (σ' := σ) (wipe_length σ vs).symm fun j hj => by
        by_cases hm : j ∈ vs
        · exact absurd (nc j hm) hj
        · exact (L2.wipe_out hm).symm
      have sp : ∀ z, plus Ox Dl z → plus Ox1 Dl z := fun z hz => hz.imp (so z) id
      refine hP _ Hc (f.trans fc s fun z => ?_) (fun z hz => s z (wc z ((w6 z).mp hz))) ⟨Dl, rfl, .inl (f.none_back hD), h0D, e6.less sp, accV, hDl, ra.go (Goes1.less fun z hz => ?_)⟩
      · simp only [E.quiet, Bool.and_eq_true] at z ⊢
        exact ⟨⟨z.1.1.1, z.1.1.2⟩, z.1.2, z.2⟩
      · exact hz.imp (sp z) (w6 z).mp
end
end En
end

section
set_option Elab.async false
set_option linter.all false
set_option maxRecDepth 100000
set_option maxHeartbeats 4000000
namespace En
open PySem PySem.Spec L2

/-! ### statements -/
/-- what new owned things there may be -/
def SubS (Wa : OS) (H : Hp) (env : Env) (σ : L2.St) : Prop := ∀ a, WA env σ a → Wa a ∨ H a = none
def ResS (Ox : OS) (H0 : Hp) (M : OS) (σ : L2.St) (env : Env) : Val → V → Hp → Prop
  | (.sh, d), v, H' => EvR Ox H0 M env σ H' ∧ Rp H' (All Ox env σ) v d
  | (.fr, d), v, H' => ∃ p, v = .ref p ∧ H0 p = none ∧ EvR (plus Ox p) H0 M env σ H' ∧ OwnT H' (All (plus Ox p) env σ) p d
  | _, _, _ => False
def PostS (μ : Mo) (Ox : OS) (H0 : Hp) (M Wa : OS) (H : Hp) (D : Ends) : RS → Prop
  | .nx env' => ∀ σ' H', Fr Wa false H H' → SubS Wa H env' σ' → EvR Ox H0 M env' σ' H' → D.nx σ' H'
  | .rt r env' => ∀ v σ' H', Fr Wa false H H' → ResS Ox H0 M σ' env' r v H' → D.rt v H'
  | .exc x env' => ∀ cls dx σ' H', Fr Wa false H H' → EvR Ox H0 M env' σ' H' → μ.XR H' (All Ox env' σ') x cls dx → μ.W cls dx σ' H'
  | .stuck => False
def rdS (μ : Mo) (C : Calls) (s : S) : TS := fun D σ H => ∃ Ox H0 M env, EvR Ox H0 M env σ H ∧ PostS μ Ox H0 M (WA env σ) H D (evS C s env)

section
variable {μ : Mo} {C : Calls} {σ σ1 : L2.St} {H H1 : Hp} {D : Ends} {Ox Ox1 : OS} {H0 : Hp} {M Wa : OS} {env env1 : Env} {s t : S} {e : E}
theorem Fr.transS {H2 : Hp} {Wb : OS} (f : Fr Wa false H H1) (g : Fr Wb false H1 H2) (s : ∀ a, Wb a → Wa a ∨ H a = none) : Fr Wa false H H2 where
  keep := fun a o h n => g.keep a o (f.keep a o h n) fun z => (s a z).elim n fun z => by rw [h] at z; cases z
  dom := fun a h => g.dom a (f.dom a h)
  ex := fun z => nomatch z
theorem PostS.rebase {r : RS} (h : PostS μ Ox H0 M Wa H D r) (f : Fr Wa false H H1) (s : SubS Wa H env1 σ1) : PostS μ Ox H0 M (WA env1 σ1) H1 D r := by
  cases r with
  | nx env' => exact fun σ' H' f' s' e' => h σ' H' (f.transS f' s) (fun a z => (s' a z).elim (s a) fun z => .inr (f.none_back z)) e'
  | rt v env' => exact fun v σ' H' f' r' => h v σ' H' (f.transS f' s) r'
  | exc x env' => exact fun cls dx σ' H' f' e' x' => h cls dx σ' H' (f.transS f' s) e' x'
  | stuck => exact h.elim
theorem PostS.lessO {r : RS} (h : PostS μ Ox H0 M Wa H D r) (so : ∀ a, Ox a → Ox1 a) : PostS μ Ox1 H0 M Wa H D r := by
  cases r with
  | nx env' => exact fun σ' H' f' s' e' => h σ' H' f' s' (e'.less so)
  | rt v env' =>
    refine fun w σ' H' f' r' => h w σ' H' f' ?_
    obtain ⟨m, d⟩ := v
    cases m with
    | sh => exact ⟨r'.1.less so, r'.2.go (Goes1.less fun a z => z.imp (so a) id)⟩
    | fr =>
      obtain ⟨p, hp, h0, e', o'⟩ := r'
      have so' : ∀ a, plus Ox p a → plus Ox1 p a := fun a z => z.imp (so a) id
      exact ⟨p, hp, h0, e'.less so', o'.go (Goes1.less fun a z => z.imp (so' a) id) fun o q => q⟩
    | bo => exact r'
    | mu i => exact r'
  | exc x env' => exact fun cls dx σ' H' f' e' x' => h cls dx σ' H' f' (e'.less so) (μ.mono _ _ _ _ _ _ (fun a z => z.imp (so a) id) x')
  | stuck => exact h.elim
theorem sub_of (s : ∀ a, WA env1 σ a → WA env σ a) : SubS (WA env σ) H env1 σ := fun a z => .inl (s a z)
/-- an expression, then what follows -/
theorem PostS.ex {α β : Type} {Rs : Env → α → β → Hp → Prop} {Q' : β → Hp → Prop} {q : Bool} {m : R α} {k : α → Env → RS} (h : PostS μ Ox H0 M Wa H D (m.toS k))
    (hk : ∀ r env1 v H1, m = .ok r env1 → Fr Wa q H H1 → (∀ a, WA env1 σ a → Wa a) → Rs env1 r v H1 → PostS μ Ox H0 M Wa H D (k r env1) → Q' v H1) : PostG μ Ox H0 M Wa q σ H Rs Q' m := by
  cases m with
  | ok r env1 => exact fun v H1 f s r1 => hk r env1 v H1 rfl f s r1 h
  | exc x env1 => exact fun cls dx H' f s e x' => h cls dx σ H' f e x'
  | stuck => exact h.elim
theorem PostS.exE {Q' : VK} {q : Bool} {m : R Val} {k : Val → Env → RS} (h : PostS μ Ox H0 M Wa H D (m.toS k))
    (hk : ∀ r env1 v H1, m = .ok r env1 → Fr Wa q H H1 → (∀ a, WA env1 σ a → Wa a) → Res Ox H0 M Wa σ H env1 r v H1 → PostS μ Ox H0 M Wa H D (k r env1) → Q' v H1) : PostE μ Ox H0 M Wa q σ H Q' m :=
  PostS.ex (k := k) h hk

/-! the readings -/
theorem rd_skip (h : rdS μ C .skip D σ H) : tNext D σ H := by
  obtain ⟨Ox, H0, M, env, e, h⟩ := h
  exact h σ H (Ex.fr Ex.rfl') (fun a z => .inl z) e
theorem rd_seqS (h : rdS μ C (.seq s t) D σ H) : tSeq (rdS μ C s) (rdS μ C t) D σ H := by
  obtain ⟨Ox, H0, M, env, e, h⟩ := h
  refine ⟨Ox, H0, M, env, e, ?_⟩
  simp only [evS] at h
  cases hm : evS C s env with
  | nx env1 =>
    rw [hm] at h
    exact fun σ' H' f s' e' => ⟨Ox, H0, M, env1, e', h.rebase f s'⟩
  | rt v env1 => rw [hm] at h; exact h
  | exc x env1 => rw [hm] at h; exact h
  | stuck => rw [hm] at h; exact h
theorem rd_asg {i : Nat} {ow : Bool} (h : rdS μ C (.asg i ow e) D σ H) : tAsg (rdE μ C e) (gName i) D σ H := by
  obtain ⟨Ox, H0, M, env, ev, h⟩ := h
  refine ⟨Ox, H0, M, env, ev, PostS.exE (by simp only [evS] at h; exact h) fun r env1 v H1 hm f s rs h1 => ?_⟩
  obtain ⟨Ox1, so, sb, e1, hd⟩ := rs.ev
  split at h1
  · exact h1.elim
  split at h1
  · exact h1.elim
  rename_i hmu hi
  have hi' : i < env1.length := by omega
  show D.nx (σ.set i (some v)) H1
  have lowc : ∀ d, low r = some d → PostS μ Ox H0 M (WA env σ) H D (.nx (setS env1 i (some (.sh, d)))) → D.nx (σ.set i (some v)) H1 := fun d hl h1 => by
    have e2 := e1.less so
    have rv : Rp H1 (All Ox env1 σ) v d := hd.rp e1 hl (Ex.fr Ex.rfl' (q := true)) (fun a z => .inl (z.imp (so a) id)) fun hf p hp z => by
      rcases z with z | z
      · exact fr_nox ev rs p hf hp z
      · obtain ⟨m, dd⟩ := r
        simp only at hf
        subst hf
        obtain ⟨p', rfl, hx, _⟩ := hd
        cases hp
        exact (e1.owa z).1 hx
    exact h1 _ H1 f.lose (fun a z => .inl (s a (WA_set_sh hi' a z))) (e2.put hi' rv)
  cases ow with
  | false =>
    simp only at h1
    cases hl : low r with
    | none => rw [hl] at h1; exact h1.elim
    | some d => rw [hl] at h1; exact lowc d hl h1
  | true =>
    obtain ⟨m, d⟩ := r
    cases m with
    | fr =>
      obtain ⟨p, rfl, hp, h0, ep, op⟩ := rs
      have nx : ¬ Ox p := fun z => by
        rcases hp with hp | hp
        · exact ev.dom p z hp
        · exact (ev.owa hp).1 z
      refine h1 _ H1 f.lose (fun a z => ?_) (ep.putOw hi' nx h0 op)
      have hσ : i < σ.length := by rw [← ep.len]; exact hi'
      obtain ⟨j, hj, hs⟩ := z
      by_cases ej : j = i
      · subst ej
        rw [List.getElem?_set_self hσ] at hs
        cases hs
        exact hp.symm
      · rw [isOw_ne ej] at hj
        rw [List.getElem?_set_ne (Ne.symm ej)] at hs
        exact .inl (s a ⟨j, hj, hs⟩)
    | _ => exact (h1 : False).elim
theorem rd_ret (h : rdS μ C (.ret e) D σ H) : tRet (rdE μ C e) D σ H := by
  obtain ⟨Ox, H0, M, env, ev, h⟩ := h
  refine ⟨Ox, H0, M, env, ev, PostS.exE (by simp only [evS] at h; exact h) fun r env1 v H1 hm f s rs h1 => ?_⟩
  cases hl : low r with
  | none => rw [hl] at h1; exact h1.elim
  | some d =>
    rw [hl] at h1
    refine h1 v σ H1 f.lose ?_
    obtain ⟨m, dd⟩ := r
    cases m with
    | sh => exact rs
    | fr => obtain ⟨p, hp, _, h0, ep, op⟩ := rs; exact ⟨p, hp, h0, ep, op⟩
    | bo => cases hl
    | mu i => cases hl
theorem rd_retN (h : rdS μ C .retN D σ H) : tRetN D σ H := by
  obtain ⟨Ox, H0, M, env, ev, h⟩ := h
  simp only [evS] at h
  exact h .non σ H (Ex.fr Ex.rfl') ⟨ev, .non⟩
theorem rd_iteS (h : rdS μ C (.ite e s t) D σ H) : tIfS (rdT μ C e) (rdS μ C s) (rdS μ C t) D σ H := by
  obtain ⟨Ox, H0, M, env, ev, h⟩ := h
  refine ⟨Ox, H0, M, env, ev, PostS.exE (by simp only [evS] at h; exact h) fun r env1 v H1 hm f s rs h1 => ?_⟩
  split at h1
  · obtain ⟨rfl, e1⟩ := bl_of rs
    exact ⟨true, rfl, iteT ⟨Ox, H0, M, env1, e1, h1.rebase f.lose (sub_of s)⟩⟩
  · obtain ⟨rfl, e1⟩ := bl_of rs
    exact ⟨false, rfl, iteF ⟨Ox, H0, M, env1, e1, h1.rebase f.lose (sub_of s)⟩⟩
  · exact h1.elim
theorem rd_exS (h : rdS μ C (.ex e) D σ H) : tDrop (rdE μ C e) D σ H := by
  obtain ⟨Ox, H0, M, env, ev, h⟩ := h
  refine ⟨Ox, H0, M, env, ev, PostS.exE (by simp only [evS] at h; exact h) fun r env1 v H1 hm f s rs h1 => ?_⟩
  obtain ⟨Ox1, so, sb, e1, hd⟩ := rs.ev
  exact h1 σ H1 f.lose (sub_of s) (e1.less so)
theorem rd_never (h : rdS μ C .never D σ H) : tNever D σ H := by
  obtain ⟨Ox, H0, M, env, ev, h⟩ := h
  exact h
/-- name += e -/
def ipAdd : TIp := fun x y H Q => (∃ i j, x = .int i ∧ y = .int j ∧ Q (.int (i + j)) H) ∨ (∃ l b xs zs, x = .ref l ∧ y = .ref b ∧ H l = some (.lst xs) ∧ Rd H b (.lst zs) ∧ xs.length + zs.length ≤ sizeLine ∧ Q (.ref l) (upd H l (.lst (xs ++ zs))))
theorem aug_post {i : Nat} {r : Val} {v : V} (ev : EvR Ox H0 M env σ H) (f : Fr (WA env σ) false H H1) (s : ∀ a, WA env1 σ a → WA env σ a) (rs : Res Ox H0 M (WA env σ) σ H env1 r v H1) (x : V) (hx : σ[i]? = some (some x))
    (h : PostS μ Ox H0 M (WA env σ) H D (match getS env1 i, rdy r with
      | some (.sh, .int a), some (.int b) => .nx (setS env1 i (some (.sh, .int (a + b))))
      | some (m, .lst xs), some (.lst ys) => if m == .sh then .stuck else if szOk (xs.length + ys.length) then .nx (setS env1 i (some (m, .lst (xs ++ ys)))) else .stuck
      | _, _ => .stuck)) : ipAdd x v H1 fun z H2 => D.nx (σ.set i (some z)) H2 := by
  obtain ⟨Ox1, so, sb, e1, hd⟩ := rs.ev
  have e2 := e1.less so
  split at h
  · rename_i a b hg hr
    obtain ⟨u, hu, ru⟩ := e2.sh i _ hg
    rw [hx] at hu
    cases hu
    have hv := RpT.int (hd.top (O2 := All Ox1 env1 σ) e1 hr (Ex.fr Ex.rfl' (q := true)) (fun _ => rfl) fun _ z => .inl z)
    refine .inl ⟨a, b, ru.ofInt, hv, h _ H1 f (fun a z => .inl (s a (WA_set_sh (getS_lt hg) a z))) (e2.put (getS_lt hg) (.int _))⟩
  · rename_i m xs ys hg hr
    split at h
    · exact h.elim
    · rename_i hm
      have hm' : m ≠ .sh := fun z => hm (by rw [z]; rfl)
      split at h
      · rename_i hz
        obtain ⟨l, hl, ol, nl, _⟩ := e2.ow i m _ hg hm'
        rw [hx] at hl
        cases hl
        obtain ⟨us, hus, ru⟩ := ol
        obtain ⟨b, ws, rfl, hb, rw'⟩ := hd.top (O2 := All Ox env1 σ) e1 hr (Ex.fr Ex.rfl' (q := true)) (fun _ => rfl) fun a z => .inl (z.imp (so a) id)
        have l1 := ru.length
        have l2 := rw'.length
        have hz' := of_decide_eq_true hz
        refine .inr ⟨l, b, us, ws, rfl, rfl, hus, hb, by omega, ?_⟩
        have wl : WA env1 σ l := ⟨i, isOw_of hg hm', hx⟩
        have g : Goes1 H1 (upd H1 l (.lst (us ++ ws))) (All Ox env1 σ) (All Ox env1 σ) := ⟨fun a o h n => by rw [upd_ne (fun z => n (by rw [z]; exact .inr wl))]; exact h, fun _ z => .inl z⟩
        obtain ⟨e3, w3⟩ := e2.write (H' := upd H1 l (.lst (us ++ ws))) (d' := .lst (xs ++ ys)) hg hm' hx (fun b u nb h => by rw [upd_ne nb]; exact h) ⟨us ++ ws, upd_same, (ru.app rw').go g⟩
        have hσ : σ.set i (some (.ref l)) = σ := by
          apply List.ext_getElem?
          intro j
          by_cases ej : j = i
          · subst ej
            rw [List.getElem?_set_self (List.getElem?_eq_some_iff.mp hx).1, hx]
          · rw [List.getElem?_set_ne (Ne.symm ej)]
        show D.nx (σ.set i (some (.ref l))) _
        rw [hσ]
        refine h σ _ (f.transS (Wb := WA env1 σ) ⟨fun a o h n => by rw [upd_ne (fun z => n (by rw [z]; exact wl))]; exact h, fun a h => ?_, fun z => nomatch z⟩ fun a z => .inl (s a z)) (fun a z => .inl (s a ((w3 a).mp z))) e3
        by_cases z : a = l
        · rw [z, upd_same]; simp
        · rw [upd_ne z]; exact h
      · exact h.elim
  · exact h.elim
theorem rd_aug {i : Nat} (h : rdS μ C (.aug i e) D σ H) : tAug i (rdE μ C e) ipAdd D σ H := by
  obtain ⟨Ox, H0, M, env, ev, h⟩ := h
  simp only [evS] at h
  split at h
  · exact h.elim
  rename_i hn
  have hx : ∃ x, σ[i]? = some (some x) := by
    cases hg : getS env i with
    | none => rw [hg] at hn; exact absurd rfl hn
    | some p =>
      obtain ⟨m, d⟩ := p
      by_cases hm : m = .sh
      · subst hm
        obtain ⟨v, hv, _⟩ := ev.sh i d hg
        exact ⟨v, hv⟩
      · obtain ⟨a, ha, _⟩ := ev.ow i m d hg hm
        exact ⟨_, ha⟩
  obtain ⟨x, hx⟩ := hx
  exact ⟨x, hx, Ox, H0, M, env, ev, PostS.exE h fun r env1 v H1 hm f s rs h1 => aug_post ev f.lose s rs x hx h1⟩
/-- for -/
theorem rd_for {tg : Tg} {k : ItK} {a b : E} {K : PySem.W.Frag} (h : rdS μ C (.for tg k a b s) D σ H) : tFor (rdI μ C k a b) (gOf K tg) (rdS μ C s) D σ H := by
  obtain ⟨Ox, H0, M, env, ev, h⟩ := h
  refine ⟨Ox, H0, M, env, ev, PostS.ex (by simp only [evS] at h; exact h) fun xs env1 J H1 hm f s1 rs h1 => ?_⟩
  obtain ⟨Ox1, so, sb, e1, wk⟩ := rs
  have h1' := (h1.rebase f.lose (sub_of s1)).lessO so
  refine ⟨fun i m σc Hc => ∃ ec, m = xs.length - i ∧ i ≤ xs.length ∧ EvR Ox1 H0 M ec σc Hc ∧ Fr (WA env1 σ) false H1 Hc ∧ SubS (WA env1 σ) H1 ec σc ∧ PostS μ Ox1 H0 M (WA env1 σ) H1 D (forL tg (evS C s) (xs.drop i) ec), ?_, ?_⟩
  · exact ⟨xs.length, env1, by omega, Nat.zero_le _, e1, Ex.fr Ex.rfl', fun a z => .inl z, by rw [List.drop_zero]; exact h1'⟩
  · rintro i m σc Hc ⟨ec, rfl, hi, e2, f2, s2, hP⟩
    have T : Turns J xs Hc (All Ox1 ec σc) := wk Hc _ f2.keep (fun x z => by
      rcases z with z | z
      · exact .inl (.inl z)
      · exact (s2 x z).imp .inr id) e2.domA
    by_cases hlt : i < xs.length
    · obtain ⟨go, yl⟩ := T.go i xs[i] (List.getElem?_eq_getElem hlt)
      refine .inr ⟨go, _, fun σ' H' hN => ⟨xs.length - (i + 1), by omega, hN⟩, fun x H' y => ?_⟩
      obtain ⟨x', rx⟩ := yl x H' y
      rw [List.drop_eq_getElem_cons hlt, forL] at hP
      have e3 := e2.ex x'
      cases hb : bindTg tg xs[i] ec with
      | none => rw [hb] at hP; exact hP.elim
      | some eb =>
        rw [hb] at hP
        simp only at hP
        refine g_ok e3 rx hb fun σ2 e4 w4 _ => ?_
        refine ⟨Ox1, H0, M, eb, e4, ?_⟩
        have f3 : Fr (WA env1 σ) false H1 H' := f2.transS (x'.fr (Wa := WA env1 σ) (q := false)) fun a z => .inl z
        have s3 : SubS (WA env1 σ) H1 eb σ2 := fun a z => s2 a (w4 a z)
        cases hm : evS C s eb with
        | nx env2 =>
          rw [hm] at hP
          refine fun σ' H'' f' s' e' => ⟨env2, rfl, hlt, e', f3.transS f' s3, fun a z => (s' a z).elim (s3 a) fun z => .inr (f3.none_back z), hP⟩
        | rt v env2 => rw [hm] at hP; exact (hP.rebase f3 s3)
        | exc x env2 => rw [hm] at hP; exact (hP.rebase f3 s3)
        | stuck => rw [hm] at hP; exact hP.elim
    · refine .inl ⟨T.stop i (by omega), ?_⟩
      rw [List.drop_of_length_le (by omega)] at hP
      exact hP σc Hc f2 s2 e2
/-- while -/
theorem rd_wh {n : Nat} (h : rdS μ C (.wh n e s) D σ H) : tWhile (rdT μ C e) (rdS μ C s) D σ H := by
  obtain ⟨Ox, H0, M, env, ev, h⟩ := h
  simp only [evS] at h
  refine ⟨fun m σc Hc => ∃ ec, EvR Ox H0 M ec σc Hc ∧ PostS μ Ox H0 M (WA ec σc) Hc D (whL (evE C e) (evS C s) m ec), ⟨n, env, ev, h⟩, ?_⟩
  rintro m σc Hc ⟨ec, e1, hP⟩
  refine ⟨Ox, H0, M, ec, e1, ?_⟩
  cases m with
  | zero => exact hP.elim
  | succ m =>
    simp only [whL] at hP
    cases hm : evE C e ec with
    | stuck => rw [hm] at hP; exact hP.elim
    | exc x env1 => rw [hm] at hP; exact fun cls dx H' f s e x' => hP cls dx σc H' f e x'
    | ok r env1 =>
      rw [hm] at hP
      intro v H1 f1 s1 rs
      obtain ⟨md, d⟩ := r
      cases md with
      | sh =>
        cases d with
        | bl bb =>
          obtain ⟨hv, e2⟩ := bl_of rs
          refine ⟨bb, hv, ?_⟩
          cases bb with
          | false => exact iteF (hP σc H1 f1.lose (sub_of s1) e2)
          | true =>
            refine iteT ⟨fun σ' H' => ∃ ec, EvR Ox H0 M ec σ' H' ∧ PostS μ Ox H0 M (WA ec σ') H' D (whL (evE C e) (evS C s) m ec), fun σ' H' hN => ⟨m, by omega, hN⟩, Ox, H0, M, env1, e2, ?_⟩
            have hP2 := hP.rebase f1.lose (sub_of (H := Hc) s1)
            simp only at hP2
            cases hb : evS C s env1 with
            | nx env2 =>
              rw [hb] at hP2
              exact fun σ' H' f' s' e' => ⟨env2, e', hP2.rebase f' s'⟩
            | rt v env2 => rw [hb] at hP2; exact hP2
            | exc x env2 => rw [hb] at hP2; exact hP2
            | stuck => rw [hb] at hP2; exact hP2
        | _ => exact (hP : False).elim
      | _ => exact (hP : False).elim
/-- a, b, .. = e (a tuple, or a list) -/
theorem rd_asgT {is : List Nat} {K : PySem.W.Frag} (h : rdS μ C (.asgT is e) D σ H) : rdE μ C e σ H fun v H1 => (∃ a xs, v = .ref a ∧ (SqT K H1 a xs ∨ SqL K H1 a xs) ∧ xs.length = is.length ∧ gsOf is xs σ H1 D.nx) := by
  obtain ⟨Ox, H0, M, env, ev, h⟩ := h
  refine ⟨Ox, H0, M, env, ev, PostS.exE (by simp only [evS] at h; exact h) fun r env1 v H1 hm f s rs h1 => ?_⟩
  obtain ⟨Ox1, so, sb, e1, hd⟩ := rs.ev
  have e2 := e1.less so
  have hlen : ∀ (is : List Nat) (ds : List En.D) (env env' : Env), bindL is ds env = some env' → ds.length = is.length := by
    intro is
    induction is with
    | nil => intro ds env env' h; cases ds with
      | nil => rfl
      | cons => cases h
    | cons i is ih => intro ds env env' h; cases ds with
      | nil => cases h
      | cons d ds =>
        simp only [bindL] at h
        obtain ⟨_, _, h2⟩ := Option.bind_eq_some_iff.mp h
        simp only [List.length_cons, ih ds _ _ h2]
  have go : ∀ (ds : List En.D) (vs : List V), Rps H1 (All Ox env1 σ) vs ds → PostS μ Ox H0 M (WA env σ) H D (ofE (bindL is ds env1)) → vs.length = is.length ∧ gsOf is vs σ H1 D.nx := fun ds vs rr h1 => by
    cases hb : bindL is ds env1 with
    | none => rw [hb] at h1; exact (h1 : False).elim
    | some env2 =>
      rw [hb] at h1
      refine ⟨by rw [rr.length]; exact hlen _ _ _ _ hb, gs_ok e2 rr hb fun σ' e' w' _ => h1 σ' H1 f.lose (fun a z => .inl (s a (w' a z))) e'⟩
  have top : ∀ d, low r = some d → RpT H1 (All Ox env1 σ) v d := fun d hl => hd.top e1 (rdy_low hl) (Ex.fr Ex.rfl' (q := true)) (fun _ => rfl) fun a z => .inl (z.imp (so a) id)
  split at h1
  · rename_i ds hl
    obtain ⟨p, vs, rfl, n, hp, rr⟩ := (top _ hl).tup
    obtain ⟨hl', hg⟩ := go ds vs rr h1
    exact ⟨p, vs, rfl, .inl (.inl hp), hl', hg⟩
  · rename_i ds hl
    obtain ⟨p, vs, rfl, hp, rr⟩ := top _ hl
    obtain ⟨hl', hg⟩ := go ds vs rr h1
    exact ⟨p, vs, rfl, .inr (.inl hp), hl', hg⟩
  · exact h1.elim
end
end En
end

section
set_option Elab.async false
set_option linter.all false
set_option maxRecDepth 100000
set_option maxHeartbeats 4000000
namespace En
open PySem PySem.Spec L2

/-! ### forms of the given text -/
def fName (p : Str → Bool) (e : Expr) : Bool := match e with
  | .Name x _ => p x
  | _ => false
def fCon (p : Const → Bool) (e : Expr) : Bool := match e with
  | .Constant c _ _ => p c
  | _ => false
def fUn (p : UnaryOp → Expr → Bool) (e : Expr) : Bool := match e with
  | .UnaryOp o x _ => p o x
  | _ => false
def fBin (p : Operator → Expr → Expr → Bool) (e : Expr) : Bool := match e with
  | .BinOp x o y _ => p o x y
  | _ => false
def fCmp (p : CmpOp → Expr → Expr → Bool) (e : Expr) : Bool := match e with
  | .Compare x [o] [y] _ => p o x y
  | _ => false
def fCmp2 (p : CmpOp → CmpOp → Expr → Expr → Expr → Bool) (e : Expr) : Bool := match e with
  | .Compare x [o, o'] [y, z] _ => p o o' x y z
  | _ => false
def fCall1 (p : Str → Expr → Bool) (e : Expr) : Bool := match e with
  | .Call (.Name f _) [x] [] _ => p f x
  | _ => false
def fCall2 (p : Str → Expr → Expr → Bool) (e : Expr) : Bool := match e with
  | .Call (.Name f _) [x, y] [] _ => p f x y
  | _ => false
def fCall (p : Str → List Expr → Bool) (e : Expr) : Bool := match e with
  | .Call (.Name f _) (x :: xs) [] _ => p f (x :: xs)
  | _ => false
def fCallK (p : Str → Expr → Option Str → Expr → Bool) (e : Expr) : Bool := match e with
  | .Call (.Name f _) [x] [⟨n, y, _⟩] _ => p f x n y
  | _ => false
def fMeth1 (p : Str → Expr → Expr → Bool) (e : Expr) : Bool := match e with
  | .Call (.Attribute o m apos) [x] [] pos => (apos.endLine == pos.line) && p m o x
  | _ => false
def fSub (p : Expr → Expr → Bool) (e : Expr) : Bool := match e with
  | .Subscript x y _ => p x y
  | _ => false
def fSl (p : Expr → Option Expr → Option Expr → Bool) (e : Expr) : Bool := match e with
  | .Subscript x (.Slice lo hi none _) _ => p x lo hi
  | _ => false
def fBool (p : BoolOp → List Expr → Pos → Bool) (e : Expr) : Bool := match e with
  | .BoolOp o xs pos => p o xs pos
  | _ => false
def fIf (p : Expr → Expr → Expr → Bool) (e : Expr) : Bool := match e with
  | .IfExp c x y _ => p c x y
  | _ => false
def fTup (p : List Expr → Bool) (e : Expr) : Bool := match e with
  | .Tuple es _ _ => p es
  | _ => false
def fLst (p : List Expr → Bool) (e : Expr) : Bool := match e with
  | .List es _ => p es
  | _ => false
def fLc (p : Expr → Expr → Expr → List Expr → Scope → Bool) (e : Expr) : Bool := match e with
  | .ListComp elt [⟨tg, it, ifs, a⟩] sc _ => (a == 0) && p elt tg it ifs sc
  | _ => false
def fDic (p : List (Option Expr) → List Expr → Bool) (e : Expr) : Bool := match e with
  | .Dict ks vs _ => p ks vs
  | _ => false

section
variable {e : Expr}
theorem iName {p : Str → Bool} (h : fName p e = true) : ∃ x pos, e = .Name x pos ∧ p x = true := by
  unfold fName at h; split at h
  · exact ⟨_, _, rfl, h⟩
  · cases h
theorem iCon {p : Const → Bool} (h : fCon p e = true) : ∃ c k pos, e = .Constant c k pos ∧ p c = true := by
  unfold fCon at h; split at h
  · exact ⟨_, _, _, rfl, h⟩
  · cases h
theorem iUn {p : UnaryOp → Expr → Bool} (h : fUn p e = true) : ∃ o x pos, e = .UnaryOp o x pos ∧ p o x = true := by
  unfold fUn at h; split at h
  · exact ⟨_, _, _, rfl, h⟩
  · cases h
theorem iBin {p : Operator → Expr → Expr → Bool} (h : fBin p e = true) : ∃ o x y pos, e = .BinOp x o y pos ∧ p o x y = true := by
  unfold fBin at h; split at h
  · exact ⟨_, _, _, _, rfl, h⟩
  · cases h
theorem iCmp {p : CmpOp → Expr → Expr → Bool} (h : fCmp p e = true) : ∃ o x y pos, e = .Compare x [o] [y] pos ∧ p o x y = true := by
  unfold fCmp at h; split at h
  · exact ⟨_, _, _, _, rfl, h⟩
  · cases h
theorem iCmp2 {p : CmpOp → CmpOp → Expr → Expr → Expr → Bool} (h : fCmp2 p e = true) : ∃ o o' x y z pos, e = .Compare x [o, o'] [y, z] pos ∧ p o o' x y z = true := by
  unfold fCmp2 at h; split at h
  · exact ⟨_, _, _, _, _, _, rfl, h⟩
  · cases h
theorem iCall1 {p : Str → Expr → Bool} (h : fCall1 p e = true) : ∃ f fp x pos, e = .Call (.Name f fp) [x] [] pos ∧ p f x = true := by
  unfold fCall1 at h; split at h
  · exact ⟨_, _, _, _, rfl, h⟩
  · cases h
theorem iCall2 {p : Str → Expr → Expr → Bool} (h : fCall2 p e = true) : ∃ f fp x y pos, e = .Call (.Name f fp) [x, y] [] pos ∧ p f x y = true := by
  unfold fCall2 at h; split at h
  · exact ⟨_, _, _, _, _, rfl, h⟩
  · cases h
theorem iCall {p : Str → List Expr → Bool} (h : fCall p e = true) : ∃ f fp x xs pos, e = .Call (.Name f fp) (x :: xs) [] pos ∧ p f (x :: xs) = true := by
  unfold fCall at h; split at h
  · exact ⟨_, _, _, _, _, rfl, h⟩
  · cases h
theorem iCallK {p : Str → Expr → Option Str → Expr → Bool} (h : fCallK p e = true) : ∃ f fp x n y kp pos, e = .Call (.Name f fp) [x] [⟨n, y, kp⟩] pos ∧ p f x n y = true := by
  unfold fCallK at h; split at h
  · exact ⟨_, _, _, _, _, _, _, rfl, h⟩
  · cases h
theorem iMeth1 {p : Str → Expr → Expr → Bool} (h : fMeth1 p e = true) : ∃ o m apos x pos, e = .Call (.Attribute o m apos) [x] [] pos ∧ (apos.endLine == pos.line) = true ∧ p m o x = true := by
  unfold fMeth1 at h; split at h
  · exact ⟨_, _, _, _, _, rfl, Bool.and_eq_true _ _ ▸ h⟩
  · cases h
theorem iSub {p : Expr → Expr → Bool} (h : fSub p e = true) : ∃ x y pos, e = .Subscript x y pos ∧ p x y = true := by
  unfold fSub at h; split at h
  · exact ⟨_, _, _, rfl, h⟩
  · cases h
theorem iSl {p : Expr → Option Expr → Option Expr → Bool} (h : fSl p e = true) : ∃ x lo hi p2 pos, e = .Subscript x (.Slice lo hi none p2) pos ∧ p x lo hi = true := by
  unfold fSl at h; split at h
  · exact ⟨_, _, _, _, _, rfl, h⟩
  · cases h
theorem iBool {p : BoolOp → List Expr → Pos → Bool} (h : fBool p e = true) : ∃ o xs pos, e = .BoolOp o xs pos ∧ p o xs pos = true := by
  unfold fBool at h; split at h
  · exact ⟨_, _, _, rfl, h⟩
  · cases h
theorem iIf {p : Expr → Expr → Expr → Bool} (h : fIf p e = true) : ∃ c x y pos, e = .IfExp c x y pos ∧ p c x y = true := by
  unfold fIf at h; split at h
  · exact ⟨_, _, _, _, rfl, h⟩
  · cases h
theorem iTup {p : List Expr → Bool} (h : fTup p e = true) : ∃ es k pos, e = .Tuple es k pos ∧ p es = true := by
  unfold fTup at h; split at h
  · exact ⟨_, _, _, rfl, h⟩
  · cases h
theorem iLst {p : List Expr → Bool} (h : fLst p e = true) : ∃ es pos, e = .List es pos ∧ p es = true := by
  unfold fLst at h; split at h
  · exact ⟨_, _, rfl, h⟩
  · cases h
theorem iLc {p : Expr → Expr → Expr → List Expr → Scope → Bool} (h : fLc p e = true) : ∃ elt tg it ifs sc pos, e = .ListComp elt [⟨tg, it, ifs, 0⟩] sc pos ∧ p elt tg it ifs sc = true := by
  unfold fLc at h; split at h
  · rename_i a sc pos
    have h' := Bool.and_eq_true _ _ ▸ h
    have := eq_of_beq h'.1
    subst this
    exact ⟨_, _, _, _, _, _, rfl, h'.2⟩
  · cases h
theorem iDic {p : List (Option Expr) → List Expr → Bool} (h : fDic p e = true) : ∃ ks vs pos, e = .Dict ks vs pos ∧ p ks vs = true := by
  unfold fDic at h; split at h
  · exact ⟨_, _, _, rfl, h⟩
  · cases h
end

/-! ### names -/
def visB (sc : Scope) (x : Str) : Bool := match sc.names.lookup x with
  | some .local => true
  | some .cell => true
  | some .free => true
  | _ => false
def locB (sc : Scope) (x : Str) : Bool := match sc.names.lookup x with
  | some .local => true
  | some .cell => true
  | _ => false
def glB (sc : Scope) (x : Str) : Bool := match sc.names.lookup x with
  | some .globalImplicit => true
  | _ => false
def plainN (x : Str) : Bool := !(x == ("__debug__" : Str)) && !(x == ("__classdict__" : Str)) && !(x == ("__name__" : Str))
def slotB (N : List Str) (sc : Scope) (i : Nat) (x : Str) : Bool := decide (N[i]? = some x) && visB sc x && plainN x
/-- a name that may be stored -/
def stB (fb : Str → Bool) (sc : Scope) (x : Str) : Bool := match sc.names.lookup x with
  | some .local => true
  | some .cell => fb x
  | _ => false
def storB (N : List Str) (fb : Str → Bool) (sc : Scope) (i : Nat) (e : Expr) : Bool := fName (fun x => decide (N[i]? = some x) && stB fb sc x) e
def storsB (N : List Str) (fb : Str → Bool) (sc : Scope) : List Nat → List Expr → Bool
  | [], [] => true
  | i :: is, e :: es => storB N fb sc i e && storsB N fb sc is es
  | _, _ => false
def tgB (N : List Str) (fb : Str → Bool) (sc : Scope) : Tg → Expr → Bool
  | .one i, e => storB N fb sc i e
  | .many is, e => fTup (fun es => storsB N fb sc is es) e
def conB (d : D) (c : Const) : Bool := match d, c with
  | .non, .none => true
  | .bl b, .bool b' => b == b'
  | .int i, .int j => i == j
  | .str x, .str y => x == y
  | _, _ => false
def noStar (e : Expr) : Bool := match e with
  | .Starred _ _ => false
  | _ => true
def noComp (e : Expr) : Bool := match e with
  | .ListComp .. => false
  | .SetComp .. => false
  | .DictComp .. => false
  | _ => true

/-! ### the matcher -/
def binB (o : U2) (op : Operator) : Bool := match o, op with
  | .add, .Add => true
  | .sub, .Sub => true
  | .mul, .Mult => true
  | .fdiv, .FloorDiv => true
  | .mod, .Mod => true
  | .pow, .Pow => true
  | _, _ => false
def cmpB (o : U2) (op : CmpOp) : Bool := match o, op with
  | .eq, .Eq => true
  | .ne, .NotEq => true
  | .lt, .Lt => true
  | .le, .LtE => true
  | .gt, .Gt => true
  | .ge, .GtE => true
  | .inn, .In => true
  | .nin, .NotIn => true
  | _, _ => false
def noSet (e : Expr) : Bool := match e with
  | .Set .. => false
  | _ => true
def noSlice (e : Expr) : Bool := match e with
  | .Slice .. => false
  | _ => true
inductive U1K where
  | neg | fn (f : Str) | ty (f : Str) | isN | notN | isi (k : Kd) | max0 | join | no
def U1.kind : U1 → U1K
  | .neg => .neg
  | .len => .fn "len"
  | .sum => .fn "sum"
  | .abs => .fn "abs"
  | .all => .fn "all"
  | .list => .ty "list"
  | .tuple => .ty "tuple"
  | .int => .ty "int"
  | .isNone => .isN
  | .notNone => .notN
  | .isK k => .isi k
  | .max0 => .max0
  | .join => .join
  | .lenSet => .no
  | .sortSet => .no
/-- one operand: where it stands -/
def unB (sc : Scope) (o : U1) (p : Expr → Bool) (e : Expr) : Bool := match o.kind with
  | .neg => fUn (fun op x => (match op with | .USub => true | _ => false) && p x) e
  | .fn f => fCall1 (fun g x => g == f && glB sc g && noStar x && p x) e
  | .ty f => fCall1 (fun g x => g == f && glB sc g && noStar x && p x) e
  | .isN => fCmp (fun op x y => (match op with | .Is => true | _ => false) && fCon (fun c => match c with | .none => true | _ => false) y && p x) e
  | .notN => fCmp (fun op x y => (match op with | .IsNot => true | _ => false) && fCon (fun c => match c with | .none => true | _ => false) y && p x) e
  | .isi k => fCall2 (fun g x t => g == "isinstance" && glB sc g && noStar x && fName (fun n => n == Str.ofString k.nm && glB sc n) t && p x) e
  | .max0 => fCallK (fun g x n d => g == "max" && glB sc g && noStar x && n == some "default" && fCon (fun c => match c with | .int i => i == 0 | _ => false) d && p x) e
  | .join => fMeth1 (fun m s x => m == "join" && noStar x && fCon (fun c => match c with | .str z => z == "" | _ => false) s && p x) e
  | .no => false
def bin2B (sc : Scope) (o : U2) (p q : Expr → Bool) (e : Expr) : Bool := match o with
  | .idx => fSub (fun x y => noSlice y && p x && q y) e
  | .max => fCall2 (fun g x y => g == "max" && glB sc g && noStar x && noStar y && p x && q y) e
  | .min => fCall2 (fun g x y => g == "min" && glB sc g && noStar x && noStar y && p x && q y) e
  | .index => false
  | o => fBin (fun op x y => binB o op && p x && q y) e || fCmp (fun op x y => cmpB o op && noSet y && p x && q y) e
/-- what is walked -/
def itB (sc : Scope) (k : ItK) (p q : Expr → Bool) (b : E) (tup : Bool) (e : Expr) : Bool := match k with
  | .seq => (match b with | .nix => true | _ => false) && noSet e && p e
  | .chars => (match b with | .nix => true | _ => false) && noSet e && p e
  | .rng => (match b with | .nix => true | _ => false) && fCall1 (fun g x => g == "range" && glB sc g && noStar x && p x) e
  | .rng2 => fCall2 (fun g x y => g == "range" && glB sc g && noStar x && noStar y && p x && q y) e
  | .enum => (match b with | .nix => true | _ => false) && tup && fCall1 (fun g x => g == "enumerate" && glB sc g && noStar x && p x) e
  | .zip => tup && fCall2 (fun g x y => g == "zip" && glB sc g && noStar x && noStar y && p x && q y) e
  | .rev => (match b with | .nix => true | _ => false) && fCall1 (fun g x => g == "reversed" && glB sc g && noStar x && p x) e
  | _ => false
def optB (a : E) (p : Expr → Bool) (o : Option Expr) : Bool := match a, o with
  | .nix, none => true
  | .nix, some _ => false
  | _, some x => p x
  | _, none => false
def isNix : E → Bool
  | .nix => true
  | _ => false
def Tg.tup : Tg → Bool
  | .many _ => true
  | _ => false
def E.isB : E → Bool
  | .and _ _ | .or _ _ | .one _ => true
  | _ => false
mutual
def mE (T : Tab) (cs : List (Str × D)) (N : List Str) : E → Scope → Expr → Bool
  | .var i, sc, e => fName (slotB N sc i) e
  | .own i, sc, e => fName (slotB N sc i) e
  | .fz i, sc, e => fName (slotB N sc i) e
  | .mv i, sc, e => fName (slotB N sc i) e
  | .mut i, sc, e => fName (slotB N sc i) e
  | .lit d, _, e => fCon (conB d) e
  | .gl x d, sc, e => fName (fun y => y == x && glB sc y && plainN y && (cs.any fun p => p.1 == x && (match p.2, d with | .int i, .int j => i == j | .str a, .str b => a == b | _, _ => false))) e
  | .un o a, sc, e => unB sc o (mE T cs N a sc) e
  | .bin o a b, sc, e => bin2B sc o (mE T cs N a sc) (mE T cs N b sc) e
  | .sl a lo hi, sc, e => fSl (fun x l h => mE T cs N a sc x && optB lo (mE T cs N lo sc) l && optB hi (mE T cs N hi sc) h) e
  | .nix, _, _ => false
  | .chain o o' a b c, sc, e => fCmp2 (fun p p' x y z => cmpB o p && cmpB o' p' && noSet z && mE T cs N a sc x && mE T cs N b sc y && mE T cs N c sc z) e
  | .and a b, sc, e => fBool (fun op xs pos => (match op with | .And => true | _ => false) && b.isB && (match xs with | x :: y :: r => mE T cs N a sc x && mE T cs N b sc (.BoolOp .And (y :: r) pos) | _ => false)) e
  | .or a b, sc, e => fBool (fun op xs pos => (match op with | .Or => true | _ => false) && b.isB && (match xs with | x :: y :: r => mE T cs N a sc x && mE T cs N b sc (.BoolOp .Or (y :: r) pos) | _ => false)) e
  | .one a, sc, e => fBool (fun _ xs _ => match xs with | [x] => mE T cs N a sc x | _ => false) e
  | .not a, sc, e => fUn (fun op x => (match op with | .Not => true | _ => false) && mE T cs N a sc x) e
  | .ite _ _ _, _, _ => false
  | .nil, _, _ => false
  | .cons _ _, _, _ => false
  | .tup as, sc, e => fTup (mA T cs N as sc) e
  | .lst as, sc, e => fLst (mA T cs N as sc) e
  | .dic0, _, _ => false
  | .dic1 _ _, _, _ => false
  | .call f as, sc, e => fCall (fun g xs => glB sc g && plainN g && (match T.lookup f with | some F => F.name == g | none => false) && mA T cs N as sc xs) e
  | .lc own tg k a b c e, sc, ex => fLc (fun elt t it ifs scope => blkC N sc scope own && tgB N (fun x => scope.names.lookup x == some .cell) (relS scope sc) tg t && itB sc k (mE T cs N a sc) (mE T cs N b sc) b tg.tup it &&
      (tgL tg).all (fun i => (own.map (·.2)).contains i) && (match ifs with | [] => (match c with | .lit (.bl true) => true | _ => false) | [z] => mE T cs N c (relS scope sc) z | _ => false) && mE T cs N e (relS scope sc) elt) ex
  | .get _ _ _, _, _ => false
  | .pop _, _, _ => false
  | .popAt _ _, _, _ => false
  | .setdef _ _ _, _, _ => false
def mA (T : Tab) (cs : List (Str × D)) (N : List Str) : E → Scope → List Expr → Bool
  | .nil, _, es => es.isEmpty
  | .cons a r, sc, es => match es with
    | x :: xs => noStar x && mE T cs N a sc x && mA T cs N r sc xs
    | [] => false
  | _, _, _ => false
end
end En
end

section
set_option Elab.async false
set_option linter.all false
set_option maxRecDepth 100000
set_option maxHeartbeats 4000000
namespace En
open PySem PySem.Spec L2

/-! ### small facts about the text -/
section
variable {X : Cx} {e : Expr} {es : List Expr} {pos : Pos}
theorem star_ok (h : noStar e = true) : starEach (e :: es) X.env = (false, eval e X.env) :: starEach es X.env := by
  cases e with
  | Starred => cases h
  | _ => rfl
theorem star_any : ∀ {es : List Expr}, es.all noStar = true → (backTo pos (starEach es X.env)).any (·.1) = false := by
  intro es
  induction es with
  | nil => intro _; rfl
  | cons e r ih =>
    intro h
    simp only [List.all_cons, Bool.and_eq_true] at h
    rw [star_ok h.1]
    show (false || (backTo pos (starEach r X.env)).any (·.1)) = false
    rw [ih h.2]; rfl
theorem noSet_fold (h : noSet e = true) : ∀ x, foldedSetIterable e X.env x = pure x := by
  intro x
  cases e with
  | Set => cases h
  | _ => rfl
theorem noSet_mark {op : CmpOp} (h : noSet e = true) : behindInMarks op e = false := by
  cases e with
  | Set => cases h
  | _ => rfl
theorem noSlice_ix (h : noSlice e = true) : PlainIx e := by
  intro o i
  cases e with
  | Slice => cases h
  | _ => rfl
theorem noComp_sw {l : Nat} {t : Option Expr} (h : noComp e = true) : swapsWith e t l X.env = pure false := by
  cases e with
  | ListComp => cases h
  | SetComp => cases h
  | DictComp => cases h
  | _ => rfl
end

/-! ### the module -/
def bnames : List Str := ["len", "sum", "abs", "all", "list", "tuple", "int", "isinstance", "str", "dict", "bool", "max", "min", "range", "enumerate", "zip", "reversed", "sorted", "set"]
structure ModOk (T : Tab) (cs : List (Str × D)) (C : Calls) (k : Nat) (P : Program) (w : World) (K : PySem.W.Frag) (mg : Str → Option Value) (base : Heap) (μ : Mo) : Prop where
  blt : ∀ x, x ∈ bnames → mg x = none
  gls : ∀ x d, (x, d) ∈ cs → ∃ u v, mg x = some u ∧ flatD d = some v ∧ RelV v u
  arg : ∀ f F, T.lookup f = some F → ∀ rs, C f rs ≠ .stuck → ∃ env0, argS F.pm rs = some env0 ∧ oneMu F.pm = true
  val : ∀ f rs r fin, C f rs = .ok r fin → r.1 = .sh ∨ r.1 = .fr
  fns : ∀ f F, T.lookup f = some F → ∃ fa fd ps, mg F.name = some (.ref fa) ∧ PySem.W.keepIn K (.ref fa) = true ∧ Binds K fd ps [] ∧ FnOk P w K mg base (L2.CX P w) k fa fd ps (spC μ (C f) F.pm)
structure Good (T : Tab) (cs : List (Str × D)) (C : Calls) (k : Nat) (N : List Str) (X : Cx) (μ : Mo) (fb : Str → Bool) (sc : Scope) : Prop where
  hN : X.N = N
  nd : N.Nodup
  hsc : X.env.scope = sc
  calm : X.calm = true
  room : Room k X.A
  tk : Takes X μ.W
  po : PassesOwn (model X.prog X.w) X.A X.env X.xe
  fn : ∀ x, fb x = true → X.fn x = true
  mod : ModOk T cs C k X.prog X.w X.K X.mg X.base μ

section
variable {T : Tab} {cs : List (Str × D)} {C : Calls} {k : Nat} {N : List Str} {X : Cx} {μ : Mo} {fb : Str → Bool} {sc : Scope} {x : Str} {i : Nat}
theorem Good.un (g : Good T cs C k N X μ fb sc) : X.A.units + 200 < cLine := by have := g.room.un; omega
theorem Good.gl (g : Good T cs C k N X μ fb sc) (h : glB sc x = true) : Gl X x := by
  unfold Gl PySem.Env.kindOf
  rw [g.hsc]
  unfold glB at h
  split at h
  · assumption
  · cases h
theorem Good.vis (g : Good T cs C k N X μ fb sc) (h : visB sc x = true) : Vis X.env.scope x := by
  unfold Vis
  rw [g.hsc]
  unfold visB at h
  split at h
  · exact .inl (by assumption)
  · exact .inr (.inl (by assumption))
  · exact .inr (.inr (by assumption))
  · cases h
theorem plain_debug (h : plainN x = true) : (x == ("__debug__" : Str)) = false ∧ (x == ("__classdict__" : Str)) = false ∧ x ≠ "__name__" := by
  unfold plainN at h
  simp only [Bool.and_eq_true, Bool.not_eq_true'] at h
  exact ⟨h.1.1, h.1.2, fun z => by rw [z] at h; exact absurd h.2 (by decide)⟩
theorem Good.name (g : Good T cs C k N X μ fb sc) {pos : Pos} (h : slotB N sc i x = true) : PE X (.Name x pos) (tVar i) := by
  unfold slotB at h
  simp only [Bool.and_eq_true, decide_eq_true_eq] at h
  obtain ⟨d1, d2, _⟩ := plain_debug h.2
  exact pe_var (by rw [g.hN]; exact h.1.1) (g.vis h.1.2) d1 d2
theorem Good.stor (g : Good T cs C k N X μ fb sc) {e : Expr} (h : storB N fb sc i e = true) : PG X e (gName i) ∧ ∃ y pos, e = .Name y pos ∧ N[i]? = some y ∧ Loc X.env.scope y ∧ (X.fn y = true ∨ X.env.scope.names.lookup y = some .local) := by
  have h' := iName h
  clear h
  obtain ⟨y, pos, rfl, h⟩ := h'
  simp only [Bool.and_eq_true, decide_eq_true_eq] at h
  have hl : Loc X.env.scope y ∧ (X.fn y = true ∨ X.env.scope.names.lookup y = some .local) := by
    unfold L2.Loc
    rw [g.hsc]
    have h2 := h.2
    unfold stB at h2
    split at h2
    · exact ⟨.inl (by assumption), .inr (by assumption)⟩
    · exact ⟨.inr (by assumption), .inl (g.fn y h2)⟩
    · cases h2
  exact ⟨pg_name (by rw [g.hN]; exact g.nd) (by rw [g.hN]; exact h.1) hl.1 hl.2, y, pos, rfl, h.1, hl⟩
theorem Good.stors (g : Good T cs C k N X μ fb sc) : ∀ {is : List Nat} {es : List Expr}, storsB N fb sc is es = true → PGs X es (gsOf is) ∧ (assignEach es X.env).length = is.length ∧ (assignEach es X.env).findIdx? (·.1) = none := by
  intro is
  induction is with
  | nil => intro es h; cases es with
    | nil => exact ⟨pgs_nil, rfl, rfl⟩
    | cons => cases h
  | cons i is ih => intro es h; cases es with
    | nil => cases h
    | cons e es =>
      simp only [storsB, Bool.and_eq_true] at h
      obtain ⟨h1, y, pos, rfl, _⟩ := g.stor h.1
      obtain ⟨h2, l2, f2⟩ := ih h.2
      have ea : assignEach (.Name y pos :: es) X.env = (false, assign (.Name y pos) X.env) :: assignEach es X.env := rfl
      refine ⟨pgs_cons h1 h2 (by rw [ea]; rfl), by rw [ea, List.length_cons, l2, List.length_cons], ?_⟩
      rw [ea, List.findIdx?_cons, f2]; rfl
theorem Good.tg (g : Good T cs C k N X μ fb sc) {t : Tg} {e : Expr} (h : tgB N fb sc t e = true) : PG X e (gOf X.K t) := by
  cases t with
  | one i => exact (g.stor h).1
  | many is =>
    have h' := iTup h
    clear h
    obtain ⟨es, kk, pos, rfl, h⟩ := h'
    obtain ⟨h1, h2, h3⟩ := g.stors h
    exact pg_tup g.calm h1 h2 h3
theorem Good.bn (g : Good T cs C k N X μ fb sc) (h : x ∈ bnames) : X.mg x = none := g.mod.blt x h

/-! ### the block of a comprehension -/
theorem Good.blk (g : Good T cs C k N X μ fb sc) {s : Shared} {H : Hp} {scope : Scope} {cl : List (Str × Addr)} {Ca : Addr} {fp : List Addr} :
    Good T cs C k N (X.blk s H scope (compEnvC scope cl Ca X.env) fp) μ.in (fun x => scope.names.lookup x == some .cell) (relS scope sc) where
  hN := g.hN
  nd := g.nd
  hsc := by
    show relabel scope X.env = relS scope sc
    rw [← g.hsc]; rfl
  calm := g.calm
  room := g.room
  tk := takes0
  po := PassesOwn.never
  fn := fun x h => h
  mod := ⟨g.mod.blt, g.mod.gls, g.mod.arg, g.mod.val, g.mod.fns⟩
end

/-! ### one operand, two operands, in the text -/
section
variable {T : Tab} {cs : List (Str × D)} {C : Calls} {k : Nat} {N : List Str} {X : Cx} {μ : Mo} {fb : Str → Bool} {sc : Scope}
theorem un_sound (g : Good T cs C k N X μ fb sc) {o : U1} {a : E} {p : Expr → Bool} (ih : ∀ e, p e = true → PE X e (rdE μ C a)) {e : Expr} (h : unB sc o p e = true) :
    PE X e (rdE μ C (.un o a)) ∧ PT X e (rdT μ C (.un o a)) := by
  have viaF : ∀ {f : Str} {id : String}, fCall1 (fun g' x => g' == f && glB sc g' && noStar x && p x) e = true → f ∈ bnames → bootBuiltins f = some (.builtin id) → CallR X (.builtin id) (c1 o) → f ≠ "__name__" → (f == ("__debug__" : Str)) = false →
      PE X e (rdE μ C (.un o a)) ∧ PT X e (rdT μ C (.un o a)) := fun {f id} hh hb hv hr hn hd => by
    obtain ⟨f', fp, x, pos, rfl, h2⟩ := iCall1 hh
    simp only [Bool.and_eq_true, beq_iff_eq] at h2
    obtain ⟨⟨⟨rfl, hg⟩, hs⟩, hp⟩ := h2
    have hpe : PE X (.Call (.Name f' fp) [x] [] pos) (rdE μ C (.un o a)) := (pe_callB hr (g.gl hg) (g.bn hb) hv (pa_cons (ih x hp) pa_nil (star_ok hs)) hn hd (star_ok hs) rfl).imp fun σ H Q q => by
      obtain ⟨Ox, H0, M, env, ev, q⟩ := rd_un q
      exact ⟨Ox, H0, M, env, ev, PostG.imp q fun _ _ v H1 _ _ _ _ q => ⟨v, rfl, q⟩⟩
    exact ⟨hpe, (pt_val hpe).imp fun σ H Q q => rdT_val q⟩
  have viaT : ∀ {f : Str} {id : String}, fCall1 (fun g' x => g' == f && glB sc g' && noStar x && p x) e = true → f ∈ bnames → bootBuiltins f = some (.type id) → CallR X (.type id) (c1 o) → f ≠ "__name__" → (f == ("__debug__" : Str)) = false →
      PE X e (rdE μ C (.un o a)) ∧ PT X e (rdT μ C (.un o a)) := fun {f id} hh hb hv hr hn hd => by
    obtain ⟨f', fp, x, pos, rfl, h2⟩ := iCall1 hh
    simp only [Bool.and_eq_true, beq_iff_eq] at h2
    obtain ⟨⟨⟨rfl, hg⟩, hs⟩, hp⟩ := h2
    have hpe : PE X (.Call (.Name f' fp) [x] [] pos) (rdE μ C (.un o a)) := (pe_callTy hr (g.gl hg) (g.bn hb) hv (pa_cons (ih x hp) pa_nil (star_ok hs)) hn hd (star_ok hs) rfl).imp fun σ H Q q => by
      obtain ⟨Ox, H0, M, env, ev, q⟩ := rd_un q
      exact ⟨Ox, H0, M, env, ev, PostG.imp q fun _ _ v H1 _ _ _ _ q => ⟨v, rfl, q⟩⟩
    exact ⟨hpe, (pt_val hpe).imp fun σ H Q q => rdT_val q⟩
  cases o with
  | neg =>
    have h' := iUn h
    clear h
    obtain ⟨op, x, pos, rfl, h⟩ := h'
    cases op with
    | USub =>
      have hpe : PE X (.UnaryOp .USub x pos) (rdE μ C (.un .neg a)) := (pe_un ok_neg (ih x (by simpa using h))).imp fun σ H Q q => rd_un q
      exact ⟨hpe, (pt_val hpe).imp fun σ H Q q => rdT_val q⟩
    | _ => simp at h
  | len => exact viaF h (by decide) PySem.boot_len ok_len (by decide) (by decide)
  | sum => exact viaF h (by decide) (by decide +kernel) (ok_sum g.calm) (by decide) (by decide)
  | abs => exact viaF h (by decide) (by decide +kernel) ok_abs (by decide) (by decide)
  | all => exact viaF h (by decide) (by decide +kernel) (ok_all g.calm) (by decide) (by decide)
  | list => exact viaT h (by decide) (by decide +kernel) ok_list (by decide) (by decide)
  | tuple => exact viaT h (by decide) (by decide +kernel) ok_tuple (by decide) (by decide)
  | int => exact viaT h (by decide) (by decide +kernel) ok_int (by decide) (by decide)
  | isNone =>
    have h' := iCmp h
    clear h
    obtain ⟨op, x, y, pos, rfl, h⟩ := h'
    simp only [Bool.and_eq_true] at h
    obtain ⟨c, kk, cp, rfl, hc⟩ := iCon h.1.2
    cases op with
    | Is => cases c with
      | none => exact ⟨(pe_cmp (pc_isN (ih x h.2))).imp fun σ H Q q => by
          obtain ⟨Ox, H0, M, env, ev, q⟩ := rd_un q
          exact ⟨Ox, H0, M, env, ev, PostG.imp q fun _ _ v H1 _ _ _ _ q => ok_isN q⟩, (pt_cmp (pc_isN (ih x h.2))).imp fun σ H Q q => by
          obtain ⟨Ox, H0, M, env, ev, q⟩ := rd_un (show rdE μ C (.un .isNone a) σ H _ from q)
          exact ⟨Ox, H0, M, env, ev, PostG.imp q fun _ _ v H1 _ _ _ _ q => ok_isN q⟩⟩
      | _ => cases hc
    | _ => simp at h
  | notNone =>
    have h' := iCmp h
    clear h
    obtain ⟨op, x, y, pos, rfl, h⟩ := h'
    simp only [Bool.and_eq_true] at h
    obtain ⟨c, kk, cp, rfl, hc⟩ := iCon h.1.2
    cases op with
    | IsNot => cases c with
      | none => exact ⟨(pe_cmp (pc_notN (ih x h.2))).imp fun σ H Q q => by
          obtain ⟨Ox, H0, M, env, ev, q⟩ := rd_un q
          exact ⟨Ox, H0, M, env, ev, PostG.imp q fun _ _ v H1 _ _ _ _ q => ok_notN q⟩, (pt_cmp (pc_notN (ih x h.2))).imp fun σ H Q q => by
          obtain ⟨Ox, H0, M, env, ev, q⟩ := rd_un (show rdE μ C (.un .notNone a) σ H _ from q)
          exact ⟨Ox, H0, M, env, ev, PostG.imp q fun _ _ v H1 _ _ _ _ q => ok_notN q⟩⟩
      | _ => cases hc
    | _ => simp at h
  | isK kd =>
    have h' := iCall2 h
    clear h
    obtain ⟨f', fp, x, t, pos, rfl, h⟩ := h'
    simp only [Bool.and_eq_true, beq_iff_eq] at h
    obtain ⟨⟨⟨⟨rfl, hg⟩, hs⟩, ht⟩, hp⟩ := h
    have ht' := iName ht
    clear ht
    obtain ⟨n, np, rfl, ht⟩ := ht'
    simp only [Bool.and_eq_true, beq_iff_eq] at ht
    obtain ⟨rfl, hgn⟩ := ht
    have hb : (Str.ofString kd.nm) ∈ bnames := by cases kd <;> decide
    have hv : bootBuiltins (Str.ofString kd.nm) = some (.type kd.nm) := by cases kd <;> decide +kernel
    have hpe : PE X (.Call (.Name "isinstance" fp) [x, .Name (Str.ofString kd.nm) np] [] pos) (rdE μ C (.un (.isK kd) a)) :=
      (pe_callB (ok_isi kd) (g.gl hg) (g.bn (by decide)) (by decide +kernel) (pa_cons (ih x hp) (pa_cons (pe_bltn (v := .ty kd.nm) (g.gl hgn) (g.bn hb) hv rfl (by cases kd <;> decide) (by cases kd <;> decide)) pa_nil rfl) (star_ok hs)) (by decide) (by decide) (star_ok hs) rfl).imp fun σ H Q q => by
      obtain ⟨Ox, H0, M, env, ev, q⟩ := rd_un q
      exact ⟨Ox, H0, M, env, ev, PostG.imp q fun _ _ v H1 _ _ _ _ q => ⟨v, rfl, q⟩⟩
    exact ⟨hpe, (pt_val hpe).imp fun σ H Q q => rdT_val q⟩
  | max0 =>
    have h' := iCallK h
    clear h
    obtain ⟨f', fp, x, n, y, kp, pos, rfl, h⟩ := h'
    simp only [Bool.and_eq_true, beq_iff_eq] at h
    obtain ⟨⟨⟨⟨⟨rfl, hg⟩, hs⟩, rfl⟩, hc⟩, hp⟩ := h
    have hc' := iCon hc
    clear hc
    obtain ⟨c, kk, cp, rfl, hc⟩ := hc'
    cases c with
    | int z =>
      have hz : z = 0 := by simpa using hc
      subst hz
      have hpe : PE X (.Call (.Name "max" fp) [x] [⟨some "default", .Constant (.int 0) kk cp, kp⟩] pos) (rdE μ C (.un .max0 a)) :=
        (pe_callBK (ok_max0 g.calm g.un) (g.gl hg) (g.bn (by decide)) (by decide +kernel) (pa_cons (ih x hp) pa_nil (star_ok hs)) (pk_cons pe_int pk_nil) (by decide) (by decide) (by rw [star_ok hs]; rfl) (by rw [star_ok hs]; rfl) rfl rfl rfl).imp fun σ H Q q => by
        obtain ⟨Ox, H0, M, env, ev, q⟩ := rd_un q
        exact ⟨Ox, H0, M, env, ev, PostG.imp q fun _ _ v H1 _ _ _ _ q => ⟨v, rfl, rfl, q⟩⟩
      exact ⟨hpe, (pt_val hpe).imp fun σ H Q q => rdT_val q⟩
    | _ => simp at hc
  | join =>
    have h' := iMeth1 h
    clear h
    obtain ⟨s, m, apos, x, pos, rfl, hl, h⟩ := h'
    simp only [Bool.and_eq_true, beq_iff_eq] at h
    obtain ⟨⟨⟨rfl, hs⟩, hc⟩, hp⟩ := h
    have hc' := iCon hc
    clear hc
    obtain ⟨c, kk, cp, rfl, hc⟩ := hc'
    cases c with
    | str z =>
      have hz : z = "" := by simpa using hc
      subst hz
      have hpe : PE X (.Call (.Attribute (.Constant (.str "") kk cp) "join" apos) [x] [] pos) (rdE μ C (.un .join a)) :=
        (pe_m1 PySem.F.slot_str_join PySem.F.type_str_join ok_join pe_str (ih x hp) (star_ok hs) rfl hl).imp fun σ H Q q => by
        obtain ⟨Ox, H0, M, env, ev, q⟩ := rd_un q
        exact ⟨⟨_, rfl⟩, Ox, H0, M, env, ev, PostG.imp q fun _ _ v H1 _ _ _ _ q => ⟨by decide +kernel, v, rfl, q⟩⟩
      exact ⟨hpe, (pt_val hpe).imp fun σ H Q q => rdT_val q⟩
    | _ => simp at hc
  | lenSet => cases h
  | sortSet => cases h
end
end En
end

section
set_option Elab.async false
set_option linter.all false
set_option maxRecDepth 100000
set_option maxHeartbeats 4000000
namespace En
open PySem PySem.Spec L2

section
variable {T : Tab} {cs : List (Str × D)} {C : Calls} {k : Nat} {N : List Str} {X : Cx} {μ : Mo} {fb : Str → Bool} {sc : Scope}
theorem cmp_ok (g : Good T cs C k N X μ fb sc) {o : U2} {op : CmpOp} (h : cmpB o op = true) : OpR X (compareOp op) (q2 o) := by
  have hu := g.un
  cases o <;> cases op <;> first
    | (cases h; done)
    | exact ok_eq hu
    | exact ok_ne hu
    | exact ok_lt
    | exact ok_le
    | exact ok_gt
    | exact ok_ge (by omega)
    | exact ok_in hu
    | exact ok_nin hu
theorem bin_ok {o : U2} {op : Operator} (h : binB o op = true) : OpR X (binaryOp op) (q2 o) := by
  cases o <;> cases op <;> first
    | (cases h; done)
    | exact ok_add
    | exact ok_sub
    | exact ok_mul
    | exact ok_fdiv
    | exact ok_mod
    | exact ok_pow
theorem bin_sound (g : Good T cs C k N X μ fb sc) {o : U2} {a b : E} {p q : Expr → Bool} (iha : ∀ e, p e = true → PE X e (rdE μ C a)) (ihb : ∀ e, q e = true → PE X e (rdE μ C b)) {e : Expr} (h : bin2B sc o p q e = true) :
    PE X e (rdE μ C (.bin o a b)) ∧ PT X e (rdT μ C (.bin o a b)) := by
  have viaC : ∀ {f : Str} {id : String}, fCall2 (fun g' x y => g' == f && glB sc g' && noStar x && noStar y && p x && q y) e = true → f ∈ bnames → bootBuiltins f = some (.builtin id) → CallR X (.builtin id) (c2 o) → f ≠ "__name__" → (f == ("__debug__" : Str)) = false →
      PE X e (rdE μ C (.bin o a b)) ∧ PT X e (rdT μ C (.bin o a b)) := fun {f id} hh hb hv hr hn hd => by
    obtain ⟨f', fp, x, y, pos, rfl, h2⟩ := iCall2 hh
    simp only [Bool.and_eq_true, beq_iff_eq] at h2
    obtain ⟨⟨⟨⟨⟨rfl, hg⟩, hs⟩, hs2⟩, hp⟩, hq⟩ := h2
    have hpe : PE X (.Call (.Name f' fp) [x, y] [] pos) (rdE μ C (.bin o a b)) := (pe_callB hr (g.gl hg) (g.bn hb) hv (pa_cons (iha x hp) (pa_cons (ihb y hq) pa_nil (star_ok hs2)) (star_ok hs)) hn hd (star_ok hs) (by rw [star_ok hs2]; rfl)).imp fun σ H Q z => by
      obtain ⟨Ox, H0, M, env, ev, z⟩ := rd_bin z
      refine ⟨Ox, H0, M, env, ev, PostG.imp z fun _ _ v H1 _ _ _ _ z => ?_⟩
      obtain ⟨Ox, H0, M, env, ev, z⟩ := z
      exact ⟨Ox, H0, M, env, ev, PostG.imp z fun _ _ w H2 _ _ _ _ z => ⟨v, w, rfl, z⟩⟩
    exact ⟨hpe, (pt_val hpe).imp fun σ H Q z => rdT_val z⟩
  have viaO : (fBin (fun op x y => binB o op && p x && q y) e || fCmp (fun op x y => cmpB o op && noSet y && p x && q y) e) = true → PE X e (rdE μ C (.bin o a b)) ∧ PT X e (rdT μ C (.bin o a b)) := fun hh => by
    rcases Bool.or_eq_true _ _ ▸ hh with hh | hh
    · obtain ⟨op, x, y, pos, rfl, h2⟩ := iBin hh
      simp only [Bool.and_eq_true] at h2
      have hpe : PE X (.BinOp x op y pos) (rdE μ C (.bin o a b)) := (pe_op (bin_ok h2.1.1) (iha x h2.1.2) (ihb y h2.2)).imp fun σ H Q z => rd_bin z
      exact ⟨hpe, (pt_val hpe).imp fun σ H Q z => rdT_val z⟩
    · obtain ⟨op, x, y, pos, rfl, h2⟩ := iCmp hh
      simp only [Bool.and_eq_true] at h2
      obtain ⟨⟨⟨h3, h4⟩, h5⟩, h6⟩ := h2
      exact ⟨(pe_cmpR (cmp_ok g h3) (iha x h5) (ihb y h6) (noSet_mark h4)).imp fun σ H Q z => rd_bin z, (pt_cmpR (cmp_ok g h3) (iha x h5) (ihb y h6) (noSet_mark h4)).imp fun σ H Q z => rd_bin (show rdE μ C (.bin o a b) σ H _ from z)⟩
  cases o with
  | idx =>
    obtain ⟨x, y, pos, rfl, h2⟩ := iSub h
    simp only [Bool.and_eq_true] at h2
    have hpe : PE X (.Subscript x y pos) (rdE μ C (.bin .idx a b)) := (pe_ix ok_idx (iha x h2.1.2) (ihb y h2.2) (noSlice_ix h2.1.1)).imp fun σ H Q z => rd_bin z
    exact ⟨hpe, (pt_val hpe).imp fun σ H Q z => rdT_val z⟩
  | max => exact viaC h (by decide) (by decide +kernel) (ok_max g.calm) (by decide) (by decide)
  | min => exact viaC h (by decide) (by decide +kernel) (ok_min g.calm) (by decide) (by decide)
  | index => cases h
  | _ => exact viaO h

/-! ### what is walked, in the text -/
theorem nix_of {b : E} (h : (match b with | .nix => true | _ => false) = true) : b = .nix := by
  cases b <;> first | rfl | (cases h; done)
theorem it_sound (g : Good T cs C k N X μ fb sc) {kd : ItK} {a b : E} {p q : Expr → Bool} (iha : ∀ e, p e = true → PE X e (rdE μ C a)) (ihb : ∀ e, q e = true → PE X e (rdE μ C b)) {tup : Bool} {tg e : Expr} (htg : tup = true → ∃ es kk tp, tg = .Tuple es kk tp)
    (h : itB sc kd p q b tup e = true) : PI X tg e (rdI μ C kd a b) ∧ ∀ x, foldedSetIterable e X.env x = pure x := by
  cases kd with
  | seq =>
    simp only [itB, Bool.and_eq_true] at h
    obtain ⟨⟨hb, hn⟩, hp⟩ := h
    have := nix_of hb
    subst this
    exact ⟨((pi_list (iha e hp)).or (pi_tup (iha e hp))).imp fun σ H R z => rd_seq z, noSet_fold hn⟩
  | chars =>
    simp only [itB, Bool.and_eq_true] at h
    obtain ⟨⟨hb, hn⟩, hp⟩ := h
    have := nix_of hb
    subst this
    exact ⟨(pi_str (iha e hp)).imp fun σ H R z => rd_chars z, noSet_fold hn⟩
  | rng =>
    simp only [itB, Bool.and_eq_true] at h
    obtain ⟨hb, hh⟩ := h
    have := nix_of hb
    subst this
    obtain ⟨f', fp, x, pos, rfl, h2⟩ := iCall1 hh
    simp only [Bool.and_eq_true, beq_iff_eq] at h2
    obtain ⟨⟨⟨rfl, hg⟩, hs⟩, hp⟩ := h2
    exact ⟨(pi_range1 (g.gl hg) (g.bn (by decide)) (pa_cons (iha x hp) pa_nil (star_ok hs)) (star_ok hs)).imp fun σ H R z => rd_rng z, fun _ => rfl⟩
  | rng2 =>
    obtain ⟨f', fp, x, y, pos, rfl, h2⟩ := iCall2 h
    simp only [Bool.and_eq_true, beq_iff_eq] at h2
    obtain ⟨⟨⟨⟨⟨rfl, hg⟩, hs⟩, hs2⟩, hp⟩, hq⟩ := h2
    exact ⟨(pi_range2 (g.gl hg) (g.bn (by decide)) (pa_cons (iha x hp) (pa_cons (ihb y hq) pa_nil (star_ok hs2)) (star_ok hs)) (by rw [star_ok hs, star_ok hs2]; rfl) (star_ok hs2)).imp fun σ H R z => rd_rng2 z, fun _ => rfl⟩
  | enum =>
    simp only [itB, Bool.and_eq_true] at h
    obtain ⟨⟨hb, ht⟩, hh⟩ := h
    have := nix_of hb
    subst this
    obtain ⟨es, kk, tp, rfl⟩ := htg ht
    obtain ⟨f', fp, x, pos, rfl, h2⟩ := iCall1 hh
    simp only [Bool.and_eq_true, beq_iff_eq] at h2
    obtain ⟨⟨⟨rfl, hg⟩, hs⟩, hp⟩ := h2
    exact ⟨(pi_enum (g.gl hg) (g.bn (by decide)) (pa_cons (iha x hp) pa_nil (star_ok hs)) (star_ok hs)).imp fun σ H R z => rd_enum z, fun _ => rfl⟩
  | zip =>
    simp only [itB, Bool.and_eq_true] at h
    obtain ⟨ht, hh⟩ := h
    obtain ⟨es, kk, tp, rfl⟩ := htg ht
    obtain ⟨f', fp, x, y, pos, rfl, h2⟩ := iCall2 hh
    simp only [Bool.and_eq_true, beq_iff_eq] at h2
    obtain ⟨⟨⟨⟨⟨rfl, hg⟩, hs⟩, hs2⟩, hp⟩, hq⟩ := h2
    exact ⟨(RZ.pi_zipA (g.gl hg) (g.bn (by decide)) (pa_cons (iha x hp) (pa_cons (ihb y hq) pa_nil (star_ok hs2)) (star_ok hs)) (star_ok hs) (by rw [star_ok hs2]; rfl)).imp fun σ H R z => rd_zip z, fun _ => rfl⟩
  | rev =>
    simp only [itB, Bool.and_eq_true] at h
    obtain ⟨hb, hh⟩ := h
    have := nix_of hb
    subst this
    obtain ⟨f', fp, x, pos, rfl, h2⟩ := iCall1 hh
    simp only [Bool.and_eq_true, beq_iff_eq] at h2
    obtain ⟨⟨⟨rfl, hg⟩, hs⟩, hp⟩ := h2
    exact ⟨(pi_reversed (g.gl hg) (g.bn (by decide)) (pa_cons (iha x hp) pa_nil (star_ok hs)) (star_ok hs)).imp fun σ H R z => rd_rev z, fun _ => rfl⟩
  | _ => cases h
theorem tup_tg {t : Tg} {e : Expr} (h : tgB N fb sc t e = true) (ht : t.tup = true) : ∃ es kk tp, e = .Tuple es kk tp := by
  cases t with
  | one i => cases ht
  | many is => obtain ⟨es, kk, tp, rfl, _⟩ := iTup h; exact ⟨es, kk, tp, rfl⟩
end

/-! ### every expression -/
structure Snd (T : Tab) (cs : List (Str × D)) (C : Calls) (k : Nat) (N : List Str) (a : E) (X : Cx) (μ : Mo) (sc : Scope) : Prop where
  pe : ∀ e, mE T cs N a sc e = true → PE X e (rdE μ C a)
  pt : ∀ e, mE T cs N a sc e = true → PT X e (rdT μ C a)
  pw : a.isB = true → ∀ e, mE T cs N a sc e = true → PW X e (rdT μ C a)
  pa : ∀ es, mA T cs N a sc es = true → PA X es (rdA μ C a) ∧ es.all noStar = true

section
variable {T : Tab} {cs : List (Str × D)} {C : Calls} {k : Nat} {N : List Str}
theorem no_args {a : E} {X : Cx} {μ : Mo} {sc : Scope} (h : ∀ es, mA T cs N a sc es = false) : ∀ es, mA T cs N a sc es = true → PA X es (rdA μ C a) ∧ es.all noStar = true := fun es q => by rw [h es] at q; cases q
theorem snd_no {a : E} {X : Cx} {μ : Mo} {sc : Scope} (h : ∀ e, mE T cs N a sc e = false) (hb : a.isB = false) (h2 : ∀ es, mA T cs N a sc es = false) : Snd T cs C k N a X μ sc :=
  ⟨fun e q => (by rw [h e] at q; cases q), fun e q => (by rw [h e] at q; cases q), fun q => (by rw [hb] at q; cases q), no_args h2⟩
theorem optB_ok {X : Cx} {μ : Mo} {sc : Scope} {a : E} (ih : Snd T cs C k N a X μ sc) {o : Option Expr} (h : optB a (mE T cs N a sc) o = true) : PO X o (rdO μ C a) := by
  cases a with
  | nix => cases o with
    | none => exact po_none
    | some x => cases h
  | _ => cases o with
    | none => cases h
    | some x => exact po_some (ih.pe x h)
/-- a test by its value, where the text has no form of its own -/
theorem pt_of {X : Cx} {e : Expr} {μ : Mo} {a : E} (h : PE X e (rdE μ C a)) (he : ∀ whole, isTrue e X.env whole = (do let v ← whole; standAt e.pos; holding [v] (truthy v))) : PT X e (rdT μ C a) := (pt_val h he).imp fun σ H Q z => rdT_val z
theorem soundE (a : E) : ∀ (X : Cx) (μ : Mo) (fb : Str → Bool) (sc : Scope), Good T cs C k N X μ fb sc → Snd T cs C k N a X μ sc := by
  induction a with
  | var i =>
    intro X μ fb sc g
    have pe : ∀ e, mE T cs N (.var i) sc e = true → ∃ x pos, e = .Name x pos ∧ PE X e (rdE μ C (.var i)) := fun e h => by
      obtain ⟨x, pos, rfl, h2⟩ := iName h
      exact ⟨x, pos, rfl, (g.name h2).imp fun σ H Q z => rd_var z⟩
    exact ⟨fun e h => let ⟨_, _, _, q⟩ := pe e h; q, fun e h => let ⟨_, _, z, q⟩ := pe e h; pt_of q (by rw [z]; intro _; rfl), (fun z => nomatch z), no_args fun _ => rfl⟩
  | own i =>
    intro X μ fb sc g
    have pe : ∀ e, mE T cs N (.own i) sc e = true → ∃ x pos, e = .Name x pos ∧ PE X e (rdE μ C (.own i)) := fun e h => by
      obtain ⟨x, pos, rfl, h2⟩ := iName h
      exact ⟨x, pos, rfl, (g.name h2).imp fun σ H Q z => rd_own z⟩
    exact ⟨fun e h => let ⟨_, _, _, q⟩ := pe e h; q, fun e h => let ⟨_, _, z, q⟩ := pe e h; pt_of q (by rw [z]; intro _; rfl), (fun z => nomatch z), no_args fun _ => rfl⟩
  | fz i =>
    intro X μ fb sc g
    have pe : ∀ e, mE T cs N (.fz i) sc e = true → ∃ x pos, e = .Name x pos ∧ PE X e (rdE μ C (.fz i)) := fun e h => by
      obtain ⟨x, pos, rfl, h2⟩ := iName h
      exact ⟨x, pos, rfl, (g.name h2).imp fun σ H Q z => rd_fz z⟩
    exact ⟨fun e h => let ⟨_, _, _, q⟩ := pe e h; q, fun e h => let ⟨_, _, z, q⟩ := pe e h; pt_of q (by rw [z]; intro _; rfl), (fun z => nomatch z), no_args fun _ => rfl⟩
  | mv i =>
    intro X μ fb sc g
    have pe : ∀ e, mE T cs N (.mv i) sc e = true → ∃ x pos, e = .Name x pos ∧ PE X e (rdE μ C (.mv i)) := fun e h => by
      obtain ⟨x, pos, rfl, h2⟩ := iName h
      exact ⟨x, pos, rfl, (g.name h2).imp fun σ H Q z => rd_mv z⟩
    exact ⟨fun e h => let ⟨_, _, _, q⟩ := pe e h; q, fun e h => let ⟨_, _, z, q⟩ := pe e h; pt_of q (by rw [z]; intro _; rfl), (fun z => nomatch z), no_args fun _ => rfl⟩
  | «mut» i =>
    intro X μ fb sc g
    have pe : ∀ e, mE T cs N (.mut i) sc e = true → ∃ x pos, e = .Name x pos ∧ PE X e (rdE μ C (.mut i)) := fun e h => by
      obtain ⟨x, pos, rfl, h2⟩ := iName h
      exact ⟨x, pos, rfl, (g.name h2).imp fun σ H Q z => rd_mut z⟩
    exact ⟨fun e h => let ⟨_, _, _, q⟩ := pe e h; q, fun e h => let ⟨_, _, z, q⟩ := pe e h; pt_of q (by rw [z]; intro _; rfl), (fun z => nomatch z), no_args fun _ => rfl⟩
  | lit d =>
    intro X μ fb sc g
    have pe : ∀ e, mE T cs N (.lit d) sc e = true → ∃ c kk pos, e = .Constant c kk pos ∧ PE X e (rdE μ C (.lit d)) := fun e h => by
      obtain ⟨c, kk, pos, rfl, h2⟩ := iCon h
      refine ⟨c, kk, pos, rfl, ?_⟩
      cases d <;> cases c <;> first
        | (cases h2; done)
        | exact pe_non.imp fun σ H Q z => rd_lit rfl z
        | (have := eq_of_beq h2; subst this; exact pe_bl.imp fun σ H Q z => rd_lit rfl z)
        | (have := eq_of_beq h2; subst this; exact pe_int.imp fun σ H Q z => rd_lit rfl z)
        | (have := eq_of_beq h2; subst this; exact pe_str.imp fun σ H Q z => rd_lit rfl z)
    exact ⟨fun e h => let ⟨_, _, _, _, q⟩ := pe e h; q, fun e h => let ⟨_, _, _, z, q⟩ := pe e h; pt_of q (by rw [z]; intro _; rfl), (fun z => nomatch z), no_args fun _ => rfl⟩
  | gl x d =>
    intro X μ fb sc g
    have pe : ∀ e, mE T cs N (.gl x d) sc e = true → ∃ x pos, e = .Name x pos ∧ PE X e (rdE μ C (.gl x d)) := fun e h => by
      obtain ⟨y, pos, rfl, h2⟩ := iName h
      simp only [Bool.and_eq_true, beq_iff_eq] at h2
      obtain ⟨⟨⟨rfl, hg⟩, hp⟩, hc⟩ := h2
      obtain ⟨⟨y', d'⟩, hm, hc⟩ := List.any_eq_true.mp hc
      simp only [Bool.and_eq_true, beq_iff_eq] at hc
      obtain ⟨rfl, hc⟩ := hc
      have hd : d' = d := by
        cases d' <;> cases d <;> first | (cases hc; done) | (have := eq_of_beq hc; rw [this])
      subst hd
      obtain ⟨u, v, hu, hv, hr⟩ := g.mod.gls _ _ hm
      exact ⟨_, pos, rfl, (pe_glob (g.gl hg) hu hr (plain_debug hp).1).imp fun σ H Q z => rd_gl hv z⟩
    exact ⟨fun e h => let ⟨_, _, _, q⟩ := pe e h; q, fun e h => let ⟨_, _, z, q⟩ := pe e h; pt_of q (by rw [z]; intro _; rfl), (fun z => nomatch z), no_args fun _ => rfl⟩
  | un o a ih =>
    intro X μ fb sc g
    have ia := ih X μ fb sc g
    exact ⟨fun e h => (un_sound g ia.pe h).1, fun e h => (un_sound g ia.pe h).2, (fun z => nomatch z), no_args fun _ => rfl⟩
  | bin o a b iha ihb =>
    intro X μ fb sc g
    have ia := iha X μ fb sc g
    have ib := ihb X μ fb sc g
    exact ⟨fun e h => (bin_sound g ia.pe ib.pe h).1, fun e h => (bin_sound g ia.pe ib.pe h).2, (fun z => nomatch z), no_args fun _ => rfl⟩
  | sl a lo hi iha ihl ihh =>
    intro X μ fb sc g
    have ia := iha X μ fb sc g
    have il := ihl X μ fb sc g
    have ih := ihh X μ fb sc g
    have pe : ∀ e, mE T cs N (.sl a lo hi) sc e = true → ∃ x y pos, e = .Subscript x y pos ∧ PE X e (rdE μ C (.sl a lo hi)) := fun e h => by
      obtain ⟨x, l, hh, p2, pos, rfl, h2⟩ := iSl h
      simp only [Bool.and_eq_true] at h2
      exact ⟨_, _, _, rfl, (pe_slice ok_sl (ia.pe x h2.1.1) (optB_ok il h2.1.2) (optB_ok ih h2.2)).imp fun σ H Q z => rd_sl z⟩
    exact ⟨fun e h => let ⟨_, _, _, _, q⟩ := pe e h; q, fun e h => let ⟨_, _, _, z, q⟩ := pe e h; pt_of q (by rw [z]; intro _; rfl), (fun z => nomatch z), no_args fun _ => rfl⟩
  | nix => intro X μ fb sc g; exact snd_no (fun _ => rfl) rfl fun _ => rfl
  | chain o o' a b c iha ihb ihc =>
    intro X μ fb sc g
    have ia := iha X μ fb sc g
    have ib := ihb X μ fb sc g
    have ic := ihc X μ fb sc g
    have both : ∀ e, mE T cs N (.chain o o' a b c) sc e = true → PE X e (rdE μ C (.chain o o' a b c)) ∧ PT X e (rdT μ C (.chain o o' a b c)) := fun e h => by
      obtain ⟨p, p', x, y, z, pos, rfl, h2⟩ := iCmp2 h
      simp only [Bool.and_eq_true] at h2
      obtain ⟨⟨⟨⟨⟨h3, h4⟩, h5⟩, h6⟩, h7⟩, h8⟩ := h2
      have hm : lastMarks [p, p'] [y, z] = false := noSet_mark h5
      exact ⟨(pe_chain (cmp_ok g h3) (cmp_ok g h4) (ia.pe x h6) (ib.pe y h7) (ic.pe z h8) hm).imp fun σ H Q q => rd_chain q, (pt_chain (cmp_ok g h3) (cmp_ok g h4) (ia.pe x h6) (ib.pe y h7) (ic.pe z h8) hm).imp fun σ H Q q => rd_chain (show rdE μ C (.chain o o' a b c) σ H _ from q)⟩
    exact ⟨fun e h => (both e h).1, fun e h => (both e h).2, (fun z => nomatch z), no_args fun _ => rfl⟩
  | and a b iha ihb =>
    intro X μ fb sc g
    have ia := iha X μ fb sc g
    have ib := ihb X μ fb sc g
    have both : ∀ e, mE T cs N (.and a b) sc e = true → PE X e (rdE μ C (.and a b)) ∧ PW X e (rdT μ C (.and a b)) := fun e h => by
      obtain ⟨op, xs, pos, rfl, h2⟩ := iBool h
      simp only [Bool.and_eq_true] at h2
      obtain ⟨⟨ho, hb⟩, hx⟩ := h2
      cases op with
      | And =>
        match xs, hx with
        | x :: y :: r, hx =>
          simp only [Bool.and_eq_true] at hx
          exact ⟨(pe_and (ia.pe x hx.1) (ib.pe _ hx.2)).imp fun σ H Q z => rd_andV z, (pw_and (ia.pt x hx.1) (ib.pw hb _ hx.2)).imp fun σ H Q z => rdT_and z⟩
      | Or => cases ho
    exact ⟨fun e h => (both e h).1, fun e h => (both e h).2.pt, fun _ e h => (both e h).2, no_args fun _ => rfl⟩
  | or a b iha ihb =>
    intro X μ fb sc g
    have ia := iha X μ fb sc g
    have ib := ihb X μ fb sc g
    have both : ∀ e, mE T cs N (.or a b) sc e = true → PE X e (rdE μ C (.or a b)) ∧ PW X e (rdT μ C (.or a b)) := fun e h => by
      obtain ⟨op, xs, pos, rfl, h2⟩ := iBool h
      simp only [Bool.and_eq_true] at h2
      obtain ⟨⟨ho, hb⟩, hx⟩ := h2
      cases op with
      | Or =>
        match xs, hx with
        | x :: y :: r, hx =>
          simp only [Bool.and_eq_true] at hx
          exact ⟨(pe_or (ia.pe x hx.1) (ib.pe _ hx.2)).imp fun σ H Q z => rd_orV z, (pw_or (ia.pt x hx.1) (ib.pw hb _ hx.2)).imp fun σ H Q z => rdT_or z⟩
      | And => cases ho
    exact ⟨fun e h => (both e h).1, fun e h => (both e h).2.pt, fun _ e h => (both e h).2, no_args fun _ => rfl⟩
  | one a ih =>
    intro X μ fb sc g
    have ia := ih X μ fb sc g
    have both : ∀ e, mE T cs N (.one a) sc e = true → PE X e (rdE μ C (.one a)) ∧ PW X e (rdT μ C (.one a)) := fun e h => by
      obtain ⟨op, xs, pos, rfl, h2⟩ := iBool h
      match xs, h2 with
      | [x], hx =>
        refine ⟨(pe_one (ia.pe x hx)).imp fun σ H Q z => rd_one z, ?_⟩
        cases op with
        | And => exact (pw_and1 (ia.pt x hx)).imp fun σ H Q z => rdT_one z
        | Or => exact (pw_or1 (ia.pt x hx)).imp fun σ H Q z => rdT_one z
    exact ⟨fun e h => (both e h).1, fun e h => (both e h).2.pt, fun _ e h => (both e h).2, no_args fun _ => rfl⟩
  | not a ih =>
    intro X μ fb sc g
    have ia := ih X μ fb sc g
    have both : ∀ e, mE T cs N (.not a) sc e = true → PE X e (rdE μ C (.not a)) ∧ PT X e (rdT μ C (.not a)) := fun e h => by
      obtain ⟨op, x, pos, rfl, h2⟩ := iUn h
      cases op with
      | Not =>
        have h3 : mE T cs N a sc x = true := by simpa using h2
        exact ⟨(pe_not (ia.pe x h3)).imp fun σ H Q z => rd_notV z, (pt_not (ia.pt x h3)).imp fun σ H Q z => rdT_not z⟩
      | _ => simp at h2
    exact ⟨fun e h => (both e h).1, fun e h => (both e h).2, (fun z => nomatch z), no_args fun _ => rfl⟩
  | ite c a b ihc iha ihb => intro X μ fb sc g; exact snd_no (fun _ => rfl) rfl fun _ => rfl
  | nil => intro X μ fb sc g; exact ⟨(fun e h => nomatch h), (fun e h => nomatch h), (fun z => nomatch z), fun es h => by
      cases es with
      | nil => exact ⟨pa_nil.imp fun σ H Q z => rd_nil z, rfl⟩
      | cons => cases h⟩
  | cons a r iha ihr =>
    intro X μ fb sc g
    have ia := iha X μ fb sc g
    have ir := ihr X μ fb sc g
    exact ⟨(fun e h => nomatch h), (fun e h => nomatch h), (fun z => nomatch z), fun es h => by
      cases es with
      | nil => cases h
      | cons x xs =>
        simp only [mA, Bool.and_eq_true] at h
        obtain ⟨p, q⟩ := ir.pa xs h.2
        exact ⟨(pa_cons (ia.pe x h.1.2) p (star_ok h.1.1)).imp fun σ H Q z => rd_cons z, by rw [List.all_cons, h.1.1, q]; rfl⟩⟩
  | tup a ih =>
    intro X μ fb sc g
    have ia := ih X μ fb sc g
    have pe : ∀ e, mE T cs N (.tup a) sc e = true → ∃ es kk pos, e = .Tuple es kk pos ∧ PE X e (rdE μ C (.tup a)) := fun e h => by
      obtain ⟨es, kk, pos, rfl, h2⟩ := iTup h
      exact ⟨_, _, _, rfl, (pe_tup (ia.pa es h2).1).imp fun σ H Q z => rd_tup z⟩
    exact ⟨fun e h => let ⟨_, _, _, _, q⟩ := pe e h; q, fun e h => let ⟨_, _, _, z, q⟩ := pe e h; pt_of q (by rw [z]; intro _; rfl), (fun z => nomatch z), no_args fun _ => rfl⟩
  | lst a ih =>
    intro X μ fb sc g
    have ia := ih X μ fb sc g
    have pe : ∀ e, mE T cs N (.lst a) sc e = true → ∃ es pos, e = .List es pos ∧ PE X e (rdE μ C (.lst a)) := fun e h => by
      obtain ⟨es, pos, rfl, h2⟩ := iLst h
      exact ⟨_, _, rfl, (pe_lst (ia.pa es h2).1).imp fun σ H Q z => rd_lst z⟩
    exact ⟨fun e h => let ⟨_, _, _, q⟩ := pe e h; q, fun e h => let ⟨_, _, z, q⟩ := pe e h; pt_of q (by rw [z]; intro _; rfl), (fun z => nomatch z), no_args fun _ => rfl⟩
  | dic0 => intro X μ fb sc g; exact snd_no (fun _ => rfl) rfl fun _ => rfl
  | dic1 a b iha ihb => intro X μ fb sc g; exact snd_no (fun _ => rfl) rfl fun _ => rfl
  | call f a ih =>
    intro X μ fb sc g
    have ia := ih X μ fb sc g
    have pe : ∀ e, mE T cs N (.call f a) sc e = true → ∃ x es pos, e = .Call x es [] pos ∧ PE X e (rdE μ C (.call f a)) := fun e h => by
      obtain ⟨x, fp, y, es, pos, rfl, h2⟩ := iCall h
      simp only [Bool.and_eq_true] at h2
      obtain ⟨⟨⟨h3, h4⟩, h5⟩, h6⟩ := h2
      cases hF : T.lookup f with
      | none => rw [hF] at h5; cases h5
      | some F =>
        rw [hF] at h5
        have hx : F.name = x := eq_of_beq h5
        subst hx
        obtain ⟨fa, fd, ps, m1, m2, m3, m4⟩ := g.mod.fns f F hF
        obtain ⟨pa, hs⟩ := ia.pa _ h6
        simp only [List.all_cons, Bool.and_eq_true] at hs
        refine ⟨_, _, _, rfl, (pe_callSD (dvs := []) (E := fun σ => WE μ.W σ) m4 g.room (g.gl h3) m1 m2 m3 .nil (fun σ => passAt g.tk σ) pa (plain_debug h4).1 (star_ok hs.1) (star_any hs.2)).imp fun σ H Q z => ?_⟩
        exact rd_call (g.mod.arg f F hF) (g.mod.val f) z
    exact ⟨fun e h => let ⟨_, _, _, _, q⟩ := pe e h; q, fun e h => let ⟨_, _, _, z, q⟩ := pe e h; pt_of q (by rw [z]; intro _; rfl), (fun z => nomatch z), no_args fun _ => rfl⟩
  | lc own tg kd a b c e iha ihb ihc ihe =>
    intro X μ fb sc g
    have ia := iha X μ fb sc g
    have ib := ihb X μ fb sc g
    have pe : ∀ ex, mE T cs N (.lc own tg kd a b c e) sc ex = true → ∃ p q r s, ex = .ListComp p q r s ∧ PE X ex (rdE μ C (.lc own tg kd a b c e)) := fun ex h => by
      obtain ⟨elt, t, it, ifs, scope, pos, rfl, h2⟩ := iLc h
      simp only [Bool.and_eq_true] at h2
      obtain ⟨⟨⟨⟨⟨hb, ht⟩, hi⟩, hv⟩, hc⟩, he⟩ := h2
      obtain ⟨pI, hf⟩ := it_sound g ia.pe ib.pe (tup_tg ht) hi
      have hbk : BlkOk X.N X.env.scope scope own := by rw [g.hN, g.hsc]; exact blkOk_by hb
      refine ⟨_, _, _, _, rfl, (pe_lc g.calm (by rw [g.hN]; exact g.nd) pI hbk (fun s H Ca cl fp => (g.blk).tg ht) (fun s H Ca cl fp => ?_) (fun s H Ca cl fp => (ihe _ _ _ _ g.blk).pe elt he) hf).imp fun σ H Q z => rd_lc (fun i hi => ?_) z⟩
      · have ic := ihc _ _ _ _ (g.blk (s := s) (H := H) (scope := scope) (cl := cl) (Ca := Ca) (fp := fp))
        match ifs, hc with
        | [], hc =>
          cases c with
          | lit d => cases d with
            | bl bb => cases bb with
              | true => exact ⟨fun pins s σ H Q I q => pts_nil.run pins s σ H Q I (by
                  obtain ⟨Ox, H0, M, env, ev, q⟩ := q
                  simp only [evE] at q
                  obtain ⟨b', eb, q⟩ := q (.bl true) H (Ex.fr Ex.rfl') (fun _ z => z) ⟨ev, .bl _⟩
                  cases eb
                  exact q)⟩
              | false => cases hc
            | _ => cases hc
          | _ => cases hc
        | [z], hc => exact pts_one (ic.pt z hc)
      · have := List.all_eq_true.mp hv i hi
        simpa using this
    exact ⟨fun e h => let ⟨_, _, _, _, _, q⟩ := pe e h; q, fun e h => let ⟨_, _, _, _, z, q⟩ := pe e h; pt_of q (by rw [z]; intro _; rfl), (fun z => nomatch z), no_args fun _ => rfl⟩
  | get a b c iha ihb ihc => intro X μ fb sc g; exact snd_no (fun _ => rfl) rfl fun _ => rfl
  | pop i => intro X μ fb sc g; exact snd_no (fun _ => rfl) rfl fun _ => rfl
  | popAt i a ih => intro X μ fb sc g; exact snd_no (fun _ => rfl) rfl fun _ => rfl
  | setdef i a b iha ihb => intro X μ fb sc g; exact snd_no (fun _ => rfl) rfl fun _ => rfl
end
end En
end

section
set_option Elab.async false
set_option linter.all false
set_option maxRecDepth 100000
set_option maxHeartbeats 4000000
namespace En
open PySem PySem.Spec L2

/-! ### += -/
theorem aug_rule {X : Cx} : PIp X .Add ipAdd := by
  intro pins s σ H x y v u Q I r1 r2 h
  rcases h with h | ⟨l, b, xs, zs, rfl, rfl, hH, hB, hz, q⟩
  · exact ip_add pins s σ H x y v u Q I r1 r2 h
  · cases r1
    cases r2
    obtain ⟨z, its, n, r, hl, e⟩ := I.lstM hH
    obtain ⟨z2, its2, n2, r2, e2⟩ := hB.ok I.hok
    have hl2 := r2.length
    have hsz : its.toArray.size + its2.toArray.size ≤ sizeLine := by rw [List.size_toArray, List.size_toArray]; omega
    have hng : ¬ (!its.toArray.isEmpty && Builtin.List.listTooLong (its.toArray.size + its2.toArray.size)) = true := by
      rw [notLongL hsz, Bool.and_false]; decide
    refine iadd_road ⟨_, e, rfl⟩ ⟨_, e2, rfl⟩ (call_meets PySem.F.slot_list_iadd ⟨_, e, rfl⟩ PySem.F.entry_list_iadd (PySem.F.args_list_iadd_2 _ _)
      (AutoSeq1.list___iadd___list_list_0 l its.toArray n b its2.toArray n2 hng (by rw [List.size_toArray]; omega) (by omega)) ⟨e, e2, ?_⟩)
    exact ⟨.ref l, _, I.lset (its' := its ++ its2) (t' := s.toks) hH e (by simp) (r.append r2) (by rw [List.length_append]; omega), rfl, q⟩

/-! ### statements in the text -/
def fFn (sc : Scope) : Bool := match sc.kind with
  | .function => true
  | _ => false
def isLocal (sc : Scope) (x : Str) : Bool := match sc.names.lookup x with
  | some .local => true
  | _ => false
/-- name = a comprehension: stored within its frame, or behind it -/
def lcSet (sc : Scope) (y : Str) (py : Pos) (e : Expr) : Bool := match e with
  | .ListComp _ _ scope pos => isLocal sc y && fFn sc && (py.line == pos.line) && !(scope.names.any fun (n, k) => n == y && (k == .local || k == .cell))
  | _ => false
def noTup (e : Expr) : Bool := match e with
  | .Tuple .. => false
  | _ => true
def isLcE : E → Bool
  | .lc .. => true
  | _ => false
mutual
def mS1 (T : Tab) (cs : List (Str × D)) (N : List Str) (fb : Str → Bool) (sc : Scope) : S → Stmt → Bool
  | .asg i _ e, st => match st with
    | .Assign [.Name y py] v _ => storB N fb sc i (.Name y py) && mE T cs N e sc v && (noComp v || (isLcE e && lcSet sc y py v) || (match v with | .ListComp .. => !isLocal sc y | _ => false))
    | _ => false
  | .asgT is e, st => match st with
    | .Assign [.Tuple ts _ _] v _ => storsB N fb sc is ts && mE T cs N e sc v && noComp v && noTup v
    | _ => false
  | .aug i e, st => match st with
    | .AugAssign t .Add v _ => storB N fb sc i t && mE T cs N e sc v
    | _ => false
  | .ex e, st => match st with
    | .Expr v _ => mE T cs N e sc v && noComp v
    | _ => false
  | .ret e, st => match st with
    | .Return (some v) _ => mE T cs N e sc v
    | _ => false
  | .retN, st => match st with
    | .Return none _ => true
    | _ => false
  | .ite c s t, st => match st with
    | .If c' a b _ => mE T cs N c sc c' && mS T cs N fb sc s a && mS T cs N fb sc t b
    | _ => false
  | .for tg k a b s, st => match st with
    | .For t it body [] _ => tgB N fb sc tg t && itB sc k (mE T cs N a sc) (mE T cs N b sc) b tg.tup it && mS T cs N fb sc s body
    | _ => false
  | .wh _ c s, st => match st with
    | .While c' body [] _ => mE T cs N c sc c' && mS T cs N fb sc s body
    | _ => false
  | .never, _ => true
  | _, _ => false
def mS (T : Tab) (cs : List (Str × D)) (N : List Str) (fb : Str → Bool) (sc : Scope) : S → List Stmt → Bool
  | .skip, sts => sts.isEmpty
  | .seq s t, sts => match sts with
    | st :: r => mS1 T cs N fb sc s st && mS T cs N fb sc t r
    | [] => false
  | _, _ => false
end
structure SndS (T : Tab) (cs : List (Str × D)) (C : Calls) (k : Nat) (N : List Str) (s : S) (X : Cx) (μ : Mo) (fb : Str → Bool) (sc : Scope) : Prop where
  ps : ∀ st, mS1 T cs N fb sc s st = true → PS X st (rdS μ C s)
  pss : ∀ sts, mS T cs N fb sc s sts = true → PSs X sts (rdS μ C s)

section
variable {T : Tab} {cs : List (Str × D)} {C : Calls} {k : Nat} {N : List Str}
/-- the parts of a comprehension -/
theorem lc_set {X : Cx} {μ : Mo} {fb : Str → Bool} {sc : Scope} (g : Good T cs C k N X μ fb sc) {own : List (Str × Nat)} {tg : Tg} {kd : ItK} {a b c e : E} {ex : Expr} {i : Nat} {y : Str} {py spos : Pos} (h : mE T cs N (.lc own tg kd a b c e) sc ex = true)
    (hy : N[i]? = some y) (hl : lcSet sc y py ex = true) : PS X (.Assign [.Name y py] ex spos) (tAsg (rdE μ C (.lc own tg kd a b c e)) (gName i)) := by
  obtain ⟨elt, t, it, ifs, scope, pos, rfl, h2⟩ := iLc h
  simp only [Bool.and_eq_true] at h2
  obtain ⟨⟨⟨⟨⟨hb, ht⟩, hi⟩, hv⟩, hc⟩, he⟩ := h2
  obtain ⟨pI, hf⟩ := it_sound g (soundE a X μ fb sc g).pe (soundE b X μ fb sc g).pe (tup_tg ht) hi
  have hbk : BlkOk X.N X.env.scope scope own := by rw [g.hN, g.hsc]; exact blkOk_by hb
  simp only [lcSet, Bool.and_eq_true, Bool.not_eq_true'] at hl
  obtain ⟨⟨⟨l1, l2⟩, l3⟩, l4⟩ := hl
  have hk : X.env.scope.kind = .function := by
    rw [g.hsc]
    unfold fFn at l2
    split at l2
    · assumption
    · cases l2
  have hyl : X.env.scope.names.lookup y = some .local := by
    rw [g.hsc]
    unfold isLocal at l1
    split at l1
    · assumption
    · cases l1
  refine (ps_setLc (i := i) g.calm (by rw [g.hN]; exact g.nd) (by rw [g.hN]; exact hy) hyl (sw_true hk hyl l3 l4) pI hbk (fun s H Ca cl fp => (g.blk).tg ht) (fun s H Ca cl fp => ?_) (fun s H Ca cl fp => (soundE e _ _ _ _ g.blk).pe elt he) hf).imp fun D σ H z => rd_lc (fun i hi => ?_) z
  · have ic := soundE (T := T) (cs := cs) (C := C) (k := k) (N := N) c _ _ _ _ (g.blk (s := s) (H := H) (scope := scope) (cl := cl) (Ca := Ca) (fp := fp))
    match ifs, hc with
    | [], hc =>
      cases c with
      | lit d => cases d with
        | bl bb => cases bb with
          | true => exact ⟨fun pins s σ H Q I q => pts_nil.run pins s σ H Q I (by
              obtain ⟨Ox, H0, M, env, ev, q⟩ := q
              simp only [evE] at q
              obtain ⟨b', eb, q⟩ := q (.bl true) H (Ex.fr Ex.rfl') (fun _ z => z) ⟨ev, .bl _⟩
              cases eb
              exact q)⟩
          | false => cases hc
        | _ => cases hc
      | _ => cases hc
    | [z], hc => exact pts_one (ic.pt z hc)
  · have := List.all_eq_true.mp hv i hi
    simpa using this
theorem sw_false {elt : Expr} {gs : List Comprehension} {scope : Scope} {pos py : Pos} {y : Str} {l : Nat} {env : PySem.Env} (hy : env.scope.names.lookup y ≠ some .local) : swapsWith (.ListComp elt gs scope pos) (some (.Name y py)) l env = pure false := by
  have e : (env.kindOf y == some NameKind.local) = false := by
    unfold PySem.Env.kindOf
    cases h : env.scope.names.lookup y with
    | none => rfl
    | some z => cases z <;> first | rfl | exact absurd h hy
  unfold swapsWith
  simp only [e]
  simp
theorem noTup_sw {X : Cx} {ts : List Expr} {kt : Nat} {pt : Pos} {v : Expr} (h : noTup v = true) : swappedStores [.Tuple ts kt pt] v X.env = pure none := by
  cases v with
  | Tuple => cases h
  | _ => rfl
theorem noComp_sole {X : Cx} {t v : Expr} {l : Nat} (h : noComp v = true) : swapsWithSole [t] v l X.env = pure false := noComp_sw h
theorem sndS_no {X : Cx} {μ : Mo} {fb : Str → Bool} {sc : Scope} {s : S} (h : ∀ st, mS1 T cs N fb sc s st = true → PS X st (rdS μ C s)) (h2 : ∀ sts, mS T cs N fb sc s sts = false) : SndS T cs C k N s X μ fb sc :=
  ⟨h, fun sts q => (by rw [h2 sts] at q; cases q)⟩
theorem soundS (s : S) : ∀ (X : Cx) (μ : Mo) (fb : Str → Bool) (sc : Scope), Good T cs C k N X μ fb sc → SndS T cs C k N s X μ fb sc := by
  induction s with
  | skip => intro X μ fb sc g; exact ⟨(fun st h => nomatch h), fun sts h => by
      cases sts with
      | nil => exact pss_nil.imp fun D σ H z => rd_skip z
      | cons => cases h⟩
  | seq s t ihs iht =>
    intro X μ fb sc g
    have is := ihs X μ fb sc g
    have it := iht X μ fb sc g
    refine ⟨(fun st h => nomatch h), fun sts h => ?_⟩
    cases sts with
    | nil => cases h
    | cons st r =>
      simp only [mS, Bool.and_eq_true] at h
      exact (pss_cons (is.ps st h.1) (it.pss r h.2)).imp fun D σ H z => rd_seqS z
  | asg i ow e =>
    intro X μ fb sc g
    have ie := soundE (T := T) (cs := cs) (C := C) (k := k) (N := N) e X μ fb sc g
    refine sndS_no (fun st h => ?_) fun _ => rfl
    simp only [mS1] at h
    split at h
    · rename_i y py v spos
      simp only [Bool.and_eq_true] at h
      obtain ⟨⟨h1, h2⟩, h3⟩ := h
      obtain ⟨_, y', py', e', hi, hl, hf⟩ := g.stor h1
      cases e'
      have hN : X.N.Nodup := by rw [g.hN]; exact g.nd
      have hi' : X.N[i]? = some y := by rw [g.hN]; exact hi
      rcases Bool.or_eq_true _ _ ▸ h3 with h3 | h3
      · rcases Bool.or_eq_true _ _ ▸ h3 with h3 | h3
        · exact (ps_set hN hi' hl (ie.pe v h2) (noComp_sw h3) hf).imp fun D σ H z => rd_asg z
        · have h4 := Bool.and_eq_true _ _ ▸ h3
          cases e with
          | lc own tg kd a b c e => exact (lc_set g h2 hi h4.2).imp fun D σ H z => rd_asg z
          | _ => exact absurd h4.1 (fun z => nomatch z)
      · cases v with
        | ListComp elt gs scope pos =>
          refine (ps_set hN hi' hl (ie.pe _ h2) (sw_false fun z => ?_) hf).imp fun D σ H z => rd_asg z
          rw [g.hsc] at z
          unfold isLocal at h3
          rw [z] at h3
          cases h3
        | _ => cases h3
    · cases h
  | asgT is e =>
    intro X μ fb sc g
    have ie := soundE (T := T) (cs := cs) (C := C) (k := k) (N := N) e X μ fb sc g
    refine sndS_no (fun st h => ?_) fun _ => rfl
    simp only [mS1] at h
    split at h
    · rename_i ts kt pt v spos
      simp only [Bool.and_eq_true] at h
      obtain ⟨⟨⟨h1, h2⟩, h3⟩, h4⟩ := h
      obtain ⟨p1, p2, p3⟩ := g.stors h1
      have pg : PG X (.Tuple ts kt pt) (fun v σ H Q => gTup X.K is.length (gsOf is) v σ H Q ∨ gUnl X.K is.length (gsOf is) v σ H Q) := ⟨fun pins s σ H v u Q I r q => by
        rcases q with q | q
        · exact (pg_tup g.calm p1 p2 p3).run pins s σ H v u Q I r q
        · exact (pg_unl g.calm p1 p2 p3).run pins s σ H v u Q I r q⟩
      refine (ps_asg (ie.pe v h2) pg (noComp_sole h3) (noTup_sw h4) rfl).imp fun D σ H z => ?_
      obtain ⟨Ox, H0, M, env, ev, z⟩ := rd_asgT (K := X.K) z
      refine ⟨Ox, H0, M, env, ev, PostG.imp z fun _ _ w H1 _ _ _ _ q => ?_⟩
      obtain ⟨a, xs, rfl, hq, hl, hg⟩ := q
      rcases hq with hq | hq
      · exact .inl ⟨a, xs, rfl, hq, hl, hg⟩
      · exact .inr ⟨a, xs, rfl, hq, hl, hg⟩
    · cases h
  | asgP i j a b => intro X μ fb sc g; exact sndS_no (fun st h => nomatch h) fun _ => rfl
  | aug i e =>
    intro X μ fb sc g
    have ie := soundE (T := T) (cs := cs) (C := C) (k := k) (N := N) e X μ fb sc g
    refine sndS_no (fun st h => ?_) fun _ => rfl
    simp only [mS1] at h
    split at h
    · rename_i t v spos
      simp only [Bool.and_eq_true] at h
      obtain ⟨_, y, py, rfl, hi, hl, hf⟩ := g.stor h.1
      exact (ps_aug (by rw [g.hN]; exact g.nd) (by rw [g.hN]; exact hi) hl (ie.pe v h.2) aug_rule hf).imp fun D σ H z => rd_aug z
    · cases h
  | setI i a b => intro X μ fb sc g; exact sndS_no (fun st h => nomatch h) fun _ => rfl
  | app i a => intro X μ fb sc g; exact sndS_no (fun st h => nomatch h) fun _ => rfl
  | clear i => intro X μ fb sc g; exact sndS_no (fun st h => nomatch h) fun _ => rfl
  | ex e =>
    intro X μ fb sc g
    have ie := soundE (T := T) (cs := cs) (C := C) (k := k) (N := N) e X μ fb sc g
    refine sndS_no (fun st h => ?_) fun _ => rfl
    simp only [mS1] at h
    split at h
    · rename_i v spos
      simp only [Bool.and_eq_true] at h
      exact (ps_expr (ie.pe v h.1) (noComp_sw h.2)).imp fun D σ H z => rd_exS z
    · cases h
  | ite c s t ihs iht =>
    intro X μ fb sc g
    have ic := soundE (T := T) (cs := cs) (C := C) (k := k) (N := N) c X μ fb sc g
    have is := ihs X μ fb sc g
    have it := iht X μ fb sc g
    refine sndS_no (fun st h => ?_) fun _ => rfl
    simp only [mS1] at h
    split at h
    · simp only [Bool.and_eq_true] at h
      exact (ps_if (ic.pt _ h.1.1) (is.pss _ h.1.2) (it.pss _ h.2)).imp fun D σ H z => rd_iteS z
    · cases h
  | «for» tg kd a b s ihs =>
    intro X μ fb sc g
    have ia := soundE (T := T) (cs := cs) (C := C) (k := k) (N := N) a X μ fb sc g
    have ib := soundE (T := T) (cs := cs) (C := C) (k := k) (N := N) b X μ fb sc g
    have is := ihs X μ fb sc g
    refine sndS_no (fun st h => ?_) fun _ => rfl
    simp only [mS1] at h
    split at h
    · simp only [Bool.and_eq_true] at h
      obtain ⟨pI, hf⟩ := it_sound g ia.pe ib.pe (tup_tg h.1.1) h.1.2
      exact (ps_for g.po g.calm pI (g.tg h.1.1) (is.pss _ h.2) hf).imp fun D σ H z => rd_for z
    · cases h
  | wh n c s ihs =>
    intro X μ fb sc g
    have ic := soundE (T := T) (cs := cs) (C := C) (k := k) (N := N) c X μ fb sc g
    have is := ihs X μ fb sc g
    refine sndS_no (fun st h => ?_) fun _ => rfl
    simp only [mS1] at h
    split at h
    · simp only [Bool.and_eq_true] at h
      exact (ps_while g.po (ic.pt _ h.1) (is.pss _ h.2)).imp fun D σ H z => rd_wh z
    · cases h
  | ret e =>
    intro X μ fb sc g
    have ie := soundE (T := T) (cs := cs) (C := C) (k := k) (N := N) e X μ fb sc g
    refine sndS_no (fun st h => ?_) fun _ => rfl
    simp only [mS1] at h
    split at h
    · exact (ps_ret (ie.pe _ h)).imp fun D σ H z => rd_ret z
    · cases h
  | retN =>
    intro X μ fb sc g
    refine sndS_no (fun st h => ?_) fun _ => rfl
    simp only [mS1] at h
    split at h
    · exact ps_retN.imp fun D σ H z => rd_retN z
    · cases h
  | never => intro X μ fb sc g; exact sndS_no (fun st h => ps_never.imp fun D σ H z => rd_never z) fun _ => rfl
end
end En
end

section
set_option Elab.async false
set_option linter.all false
set_option maxRecDepth 100000
set_option maxHeartbeats 4000000
namespace En
open PySem PySem.Spec L2

/-! ### a def by its body -/
section
variable {O M : OS} {H : Hp}
theorem getS_cons {s : Option (Sm × D)} {env : Env} {j : Nat} : getS (s :: env) (j + 1) = getS env j := rfl
theorem getS_zero {s : Option (Sm × D)} {env : Env} : getS (s :: env) 0 = s := by cases s <;> rfl
theorem ArgL.get {pm : List Sm} {rs : List Val} {vs : List V} {env : Env} (h : ArgL O M H pm rs vs env) :
    (∀ j d, getS env j = some (.sh, d) → ∃ v, vs[j]? = some v ∧ Rp H O v d) ∧ (∀ j m d, getS env j = some (m, d) → m ≠ .sh → m = .mu ∧ pm[j]? = some .mu ∧ ∃ a, vs[j]? = some (.ref a) ∧ O a ∧ M a ∧ OwnT H O a d) ∧ env.length = vs.length ∧ pm.length = vs.length := by
  induction h with
  | nil => exact ⟨fun j d h => (by simp [getS] at h), fun j m d h => (by simp [getS] at h), rfl, rfl⟩
  | sh hl hr _ ih =>
    obtain ⟨i1, i2, i3, i4⟩ := ih
    refine ⟨fun j d' h => ?_, fun j m d' h hm => ?_, by simp [i3], by simp [i4]⟩
    · cases j with
      | zero => rw [getS_zero] at h; cases h; exact ⟨_, rfl, hr⟩
      | succ j => rw [getS_cons] at h; simpa using i1 j d' h
    · cases j with
      | zero => rw [getS_zero] at h; cases h; exact absurd rfl hm
      | succ j => rw [getS_cons] at h; simpa using i2 j m d' h hm
  | mu ho hM ht _ ih =>
    obtain ⟨i1, i2, i3, i4⟩ := ih
    refine ⟨fun j d' h => ?_, fun j m d' h hm => ?_, by simp [i3], by simp [i4]⟩
    · cases j with
      | zero => rw [getS_zero] at h; cases h
      | succ j => rw [getS_cons] at h; simpa using i1 j d' h
    · cases j with
      | zero => rw [getS_zero] at h; cases h; exact ⟨rfl, rfl, _, rfl, ho, hM, ht⟩
      | succ j => rw [getS_cons] at h; simpa using i2 j m d' h hm
theorem oneMu_ix : ∀ {pm : List Sm} {i j : Nat}, oneMu pm = true → pm[i]? = some .mu → pm[j]? = some .mu → i = j := by
  intro pm
  induction pm with
  | nil => intro i j _ h; simp at h
  | cons m pm ih =>
    intro i j h hi hj
    have nomu : ∀ (l : List Sm) (k : Nat), l.contains .mu = false → l[k]? ≠ some .mu := fun l k hl hk => by
      have := List.mem_of_getElem? hk
      rw [List.contains_iff_mem.mpr this] at hl; cases hl
    cases m with
    | mu =>
      have hc : pm.contains .mu = false := by simpa [oneMu] using h
      cases i with
      | zero => cases j with
        | zero => rfl
        | succ j => exact absurd (by simpa using hj) (nomu pm j hc)
      | succ i => exact absurd (by simpa using hi) (nomu pm i hc)
    | sh =>
      cases i with
      | zero => simp at hi
      | succ i => cases j with
        | zero => simp at hj
        | succ j =>
          have q := ih (i := i) (j := j) (by simpa [oneMu] using h) (by simpa using hi) (by simpa using hj)
          rw [q]
    | ow =>
      cases i with
      | zero => simp at hi
      | succ i => cases j with
        | zero => simp at hj
        | succ j =>
          have q := ih (i := i) (j := j) (by simpa [oneMu] using h) (by simpa using hi) (by simpa using hj)
          rw [q]
theorem getS_app {env : Env} {n j : Nat} : getS (env ++ List.replicate n none) j = getS env j := by
  unfold getS
  by_cases h : j < env.length
  · rw [List.getElem?_append_left h]
  · rw [List.getElem?_append_right (by omega), List.getElem?_eq_none (l := env) (by omega), List.getElem?_replicate]
    split <;> rfl
theorem start_get {N : List Str} {vs : List V} {j : Nat} {v : V} (h : vs[j]? = some v) : (L2.start N vs)[j]? = some (some v) := by
  unfold L2.start
  have hl := (List.getElem?_eq_some_iff.mp h).1
  rw [List.getElem?_append_left (by simpa using hl), List.getElem?_map, h]; rfl
/-- the start of a def -/
theorem start_ok {pm : List Sm} {rs : List Val} {vs : List V} {env : Env} {N : List Str} (hO : ∀ a, O a → H a ≠ none) (hMO : ∀ a, M a → O a) (h1 : oneMu pm = true) (hN : vs.length ≤ N.length) (h : ArgL O M H pm rs vs env) :
    EvR (fun a => O a ∧ ¬ M a) H M (env ++ List.replicate (N.length - env.length) none) (L2.start N vs) H := by
  obtain ⟨g1, g2, g3, g4⟩ := h.get
  have wa : ∀ a, WA (env ++ List.replicate (N.length - env.length) none) (L2.start N vs) a → M a := fun a ⟨i, hi, hs⟩ => by
    obtain ⟨m, d, hg, hm⟩ := isOw_iff.mp hi
    rw [getS_app] at hg
    obtain ⟨_, _, b, hb, _, hM, _⟩ := g2 i m d hg hm
    rw [start_get hb] at hs
    cases hs
    exact hM
  have g : Goes1 H H O (All (fun a => O a ∧ ¬ M a) (env ++ List.replicate (N.length - env.length) none) (L2.start N vs)) := Goes1.less fun a z => z.elim (fun z => z.1) fun z => hMO a (wa a z)
  refine ⟨?_, fun i d hg => ?_, fun i m d hg hm => ?_, fun i j a hi hj si sj => ?_, fun a o h _ => h, fun a z => hO a z.1, fun a z => hO a (hMO a z)⟩
  · unfold L2.start
    rw [List.length_append, List.length_replicate, List.length_append, List.length_map, List.length_replicate, g3]
  · rw [getS_app] at hg
    obtain ⟨v, hv, r⟩ := g1 i d hg
    exact ⟨v, start_get hv, r.go g⟩
  · rw [getS_app] at hg
    obtain ⟨rfl, _, a, ha, hO', hM, ho⟩ := g2 i m d hg hm
    exact ⟨a, start_get ha, ho.go g fun o q => q, fun z => z.2 hM, fun z => (nomatch z), fun _ => hM⟩
  · obtain ⟨m, d, hg, hm⟩ := isOw_iff.mp hi
    obtain ⟨m', d', hg', hm'⟩ := isOw_iff.mp hj
    rw [getS_app] at hg hg'
    exact oneMu_ix h1 (g2 i m d hg hm).2.1 (g2 j m' d' hg' hm').2.1
theorem fin_at : ∀ {pm : List Sm} {env : Env} {d : D}, finS pm env = some d → ∃ j, pm[j]? = some .mu ∧ getS env j = some (.mu, d) := by
  intro pm
  induction pm with
  | nil => intro env d h; cases env <;> cases h
  | cons m pm ih =>
    intro env d h
    cases env with
    | nil => cases m <;> cases h
    | cons s env =>
      have step : finS pm env = some d → ∃ j, (m :: pm)[j]? = some .mu ∧ getS (s :: env) j = some (.mu, d) := fun h => by
        obtain ⟨j, h1, h2⟩ := ih h
        exact ⟨j + 1, by simpa using h1, by rw [getS_cons]; exact h2⟩
      cases m with
      | mu => cases s with
        | none => exact step h
        | some p =>
          obtain ⟨mm, dd⟩ := p
          cases mm with
          | mu => cases h; exact ⟨0, rfl, by rw [getS_zero]⟩
          | sh => exact step h
          | ow => exact step h
      | sh => exact step h
      | ow => exact step h
theorem fin_no : ∀ {pm : List Sm} {env : Env}, pm.contains .mu = false → finS pm env = none := by
  intro pm
  induction pm with
  | nil => intro env _; cases env <;> rfl
  | cons m pm ih =>
    intro env h
    cases m with
    | mu => simp at h
    | sh => cases env with
      | nil => rfl
      | cons s env => exact ih (by simpa using h)
    | ow => cases env with
      | nil => rfl
      | cons s env => exact ih (by simpa using h)
end
def Mo.with (μ : Mo) (E : XK) : Mo := { μ with W := fun cls d _ H => E cls d H }

section
variable {T : Tab} {cs : List (Str × D)} {C : Calls} {k : Nat} {μ : Mo} {P : Program} {w : World} {K : PySem.W.Frag} {mg : Str → Option Value} {base : Heap}
theorem body_post {F : Fn} {rs : List Val} {vs : List V} {env0 : Env} {O M : OS} {H : Hp} {Q : VK} {E : XK} (hO : ∀ a, O a → H a ≠ none) (hMO : ∀ a, M a → O a) (hMu : ∀ a b, M a → M b → a = b) (ha : argS F.pm rs = some env0) (h1 : oneMu F.pm = true) (hA : ArgL O M H F.pm rs vs env0)
    (hnm : F.pm.contains .mu = false → ∀ a, ¬ M a) (hP : PostC μ O M H Q E (runF C F rs)) (hN : vs.length ≤ F.N.length) :
    rdS (μ.with E) C F.body { nx := fun _ H' => Q .non H', rt := Q } (L2.start F.N vs) H := by
  have e0 := start_ok hO hMO h1 hN hA
  refine ⟨_, H, M, _, e0, ?_⟩
  simp only [runF, ha, h1, Bool.not_true, Bool.false_eq_true, if_false] at hP
  have sO : ∀ (env' : Env) (σ' : L2.St) (Ox : OS) (H' : Hp), (∀ a, O a ∧ ¬ M a → Ox a) → EvR Ox H M env' σ' H' → (F.pm.contains .mu = true → (finS F.pm env').isNone = false) → (∀ a, O a → All Ox env' σ' a) ∧ (∀ a, M a → ∃ d', finS F.pm env' = some d' ∧ OwnT H' (All Ox env' σ') a d') ∧ ((finS F.pm env') = none ↔ ∀ a, ¬ M a) :=
    fun env' σ' Ox H' so e' hf => by
      cases hc : F.pm.contains .mu with
      | false =>
        have nM := hnm hc
        exact ⟨fun a z => .inl (so a ⟨z, nM a⟩), fun a z => absurd z (nM a), ⟨fun _ => nM, fun _ => fin_no hc⟩⟩
      | true =>
        have hf' := hf hc
        cases hd : finS F.pm env' with
        | none => rw [hd] at hf'; cases hf'
        | some d' =>
          obtain ⟨j, hj1, hj2⟩ := fin_at hd
          obtain ⟨a, sa, oa, na, _, hM⟩ := e'.ow j .mu d' hj2 (by decide)
          have hMa := hM rfl
          have wa : WA env' σ' a := ⟨j, isOw_of hj2 (by decide), sa⟩
          refine ⟨fun b z => ?_, fun b hb => ?_, ⟨(fun z => nomatch z), fun z => absurd hMa (z a)⟩⟩
          · by_cases hb : M b
            · rw [hMu b a hb hMa]; exact .inr wa
            · exact .inl (so b ⟨z, hb⟩)
          · rw [hMu b a hb hMa]; exact ⟨d', rfl, oa⟩
  have fls : ∀ env', ¬ ((F.pm.contains .mu && (finS F.pm env').isNone) = true) → F.pm.contains .mu = true → (finS F.pm env').isNone = false := fun env' hn hc => by
    cases hq : (finS F.pm env').isNone with
    | false => rfl
    | true => exact absurd (by rw [hc, hq]; rfl) hn
  cases hm : evS C F.body (env0 ++ List.replicate (F.N.length - env0.length) none) with
  | stuck => rw [hm] at hP; exact hP.elim
  | nx env' =>
    rw [hm] at hP
    simp only at hP
    split at hP
    · exact hP.elim
    · rename_i hn
      intro σ' H' f s e'
      obtain ⟨s1, s2, s3⟩ := sO env' σ' _ H' (fun a z => z) e' (fls env' hn)
      exact hP s3 .non H' ⟨e'.pres, e'.mdom, .inl ⟨.non, rfl, .non, fun a z => let ⟨d', h1, h2⟩ := s2 a z; ⟨d', h1, h2.go (Goes1.less s1) fun o q => q⟩⟩⟩
  | rt r env' =>
    rw [hm] at hP
    simp only at hP
    split at hP
    · exact hP.elim
    · rename_i hn
      intro v σ' H' f rr
      obtain ⟨md, d⟩ := r
      cases md with
      | sh =>
        obtain ⟨e', rv⟩ := rr
        obtain ⟨s1, s2, s3⟩ := sO env' σ' _ H' (fun a z => z) e' (fls env' hn)
        exact hP s3 v H' ⟨e'.pres, e'.mdom, .inl ⟨d, rfl, rv.go (Goes1.less s1), fun a z => let ⟨d', h1, h2⟩ := s2 a z; ⟨d', h1, h2.go (Goes1.less s1) fun o q => q⟩⟩⟩
      | fr =>
        obtain ⟨p, rfl, h0, e', op⟩ := rr
        obtain ⟨s1, s2, s3⟩ := sO env' σ' _ H' (fun a z => .inl z) e' (fls env' hn)
        have s1' : ∀ a, plus O p a → All (plus (fun a => O a ∧ ¬ M a) p) env' σ' a := fun a z => z.elim (s1 a) fun z => .inl (.inr z)
        exact hP s3 _ H' ⟨e'.pres, e'.mdom, .inr ⟨d, p, rfl, rfl, h0, op.go (Goes1.less s1') fun o q => q, fun a z => let ⟨d', h1, h2⟩ := s2 a z; ⟨d', h1, h2.go (Goes1.less s1') fun o q => q⟩⟩⟩
      | bo => exact rr.elim
      | mu i => exact rr.elim
  | exc x env' =>
    rw [hm] at hP
    simp only at hP
    split at hP
    · exact hP.elim
    · rename_i hn
      obtain ⟨nM, hE⟩ := hP
      intro cls dx σ' H' f e' xr
      refine hE cls dx H' (fun a o h => e'.pres a o h (nM a)) (μ.mono _ _ _ _ _ _ (fun a z => .inl ⟨z, nM a⟩) xr)
theorem def_ok {F : Fn} {qual : Str} {st : Stmt} {fa : Addr} {fd : FuncData} {ps : List Str} (Fu : Fun K F.name qual st fa fd) (S : FnScope F.N ps (defScope st)) (hm : mS T cs F.N (fun _ => true) (defScope st) F.body (defBody st) = true) (hl : F.pm.length = ps.length) (hpl : ps.length ≤ F.N.length)
    (mod : ModOk T cs C k P w K mg base μ) : FnOk P w K mg base (L2.CX P w) (k + 1) fa fd ps (spC μ (fun rs => runF C F rs) F.pm) := by
  refine Fu.okX S (fun vs H Q E h => ?_) fun cdv A outer s H vs Q E hr h => ?_
  · obtain ⟨O, M, rs, env0, _, _, _, _, _, hA, _⟩ := h
    rw [← hl, hA.get.2.2.2]
  · obtain ⟨O, M, rs, env0, hO, hMO, hMu, ha, h1, hA, hnm, hP⟩ := h
    refine ⟨rdS (μ.with E) C F.body, ?_, body_post hO hMO hMu ha h1 hA hnm hP (by rw [← hA.get.2.2.2, hl]; exact hpl)⟩
    have g : Good T cs C k F.N (cxOf (L2.CX P w) P w K mg base F.N qual (defScope st) fa cdv A outer s H E) (μ.with E) (fun _ => true) (defScope st) :=
      ⟨rfl, S.nd, rfl, rfl, hr, takes_of rfl rfl rfl rfl, passes_of rfl, fun _ _ => rfl, ⟨mod.blt, mod.gls, mod.arg, mod.val, mod.fns⟩⟩
    exact (soundS F.body _ _ _ _ g).pss _ hm
end
end En
end

section
set_option Elab.async false
set_option linter.all false
set_option maxRecDepth 100000
set_option maxHeartbeats 4000000
namespace En
open PySem PySem.Spec L2

/-! ### what a def gives back -/
theorem low_md {v : Val} {d : D} (h : low v = some d) : v.1 = .sh ∨ v.1 = .fr := by
  obtain ⟨m, x⟩ := v
  cases m with
  | sh => exact .inl rfl
  | fr => exact .inr rfl
  | bo => cases h
  | mu i => cases h
theorem toS_rt {α : Type} {m : R α} {f : α → Env → RS} {r : Val} {env' : Env} (h : m.toS f = .rt r env') : ∃ a env1, f a env1 = .rt r env' := by
  cases m with
  | ok a env => exact ⟨a, env, h⟩
  | exc => cases h
  | stuck => cases h
theorem ofE_rt {o : Option Env} {r : Val} {env' : Env} (h : ofE o = .rt r env') : False := by
  cases o <;> cases h
abbrev OkR (f : Env → RS) : Prop := ∀ env r env', f env = .rt r env' → r.1 = .sh ∨ r.1 = .fr
theorem forL_rt {tg : Tg} {f : Env → RS} (hf : OkR f) : ∀ xs, OkR (forL tg f xs) := by
  intro xs
  induction xs with
  | nil => intro env r env' h; cases h
  | cons x xs ih =>
    intro env r env' h
    unfold forL at h
    split at h
    · cases h
    · split at h
      · exact ih _ _ _ h
      · exact hf _ _ _ h
theorem whL_rt {c : Env → R Val} {f : Env → RS} (hf : OkR f) : ∀ n, OkR (whL c f n) := by
  intro n
  induction n with
  | zero => intro env r env' h; cases h
  | succ n ih =>
    intro env r env' h
    unfold whL at h
    split at h
    · split at h
      · exact ih _ _ _ h
      · exact hf _ _ _ h
    · cases h
    · cases h
    · cases h
theorem evS_rt {C : Calls} : ∀ s : S, OkR (evS C s) := by
  intro s
  induction s with
  | skip => intro env r env' h; cases h
  | seq s t ihs iht =>
    intro env r env' h
    simp only [evS] at h
    split at h
    · exact iht _ _ _ h
    · exact ihs _ _ _ h
  | asg i ow e =>
    intro env r env' h
    simp only [evS] at h
    obtain ⟨v, env1, h⟩ := toS_rt h
    repeat' split at h
    all_goals cases h
  | asgT is e =>
    intro env r env' h
    simp only [evS] at h
    obtain ⟨v, env1, h⟩ := toS_rt h
    split at h
    · exact (ofE_rt h).elim
    · exact (ofE_rt h).elim
    · cases h
  | asgP i j a b =>
    intro env r env' h
    simp only [evS] at h
    obtain ⟨v, env1, h⟩ := toS_rt h
    obtain ⟨v, env1, h⟩ := toS_rt h
    split at h
    · split at h
      · cases h
      · exact (ofE_rt h).elim
    · cases h
  | aug i e =>
    intro env r env' h
    simp only [evS] at h
    split at h
    · cases h
    · obtain ⟨v, env1, h⟩ := toS_rt h
      repeat' split at h
      all_goals cases h
  | setI i k e =>
    intro env r env' h
    simp only [evS] at h
    obtain ⟨v, env1, h⟩ := toS_rt h
    obtain ⟨v, env1, h⟩ := toS_rt h
    repeat' split at h
    all_goals cases h
  | app i e =>
    intro env r env' h
    simp only [evS] at h
    obtain ⟨v, env1, h⟩ := toS_rt h
    repeat' split at h
    all_goals cases h
  | clear i =>
    intro env r env' h
    simp only [evS] at h
    repeat' split at h
    all_goals cases h
  | ex e =>
    intro env r env' h
    simp only [evS] at h
    obtain ⟨v, env1, h⟩ := toS_rt h
    cases h
  | ite c s t ihs iht =>
    intro env r env' h
    simp only [evS] at h
    obtain ⟨v, env1, h⟩ := toS_rt h
    split at h
    · exact ihs _ _ _ h
    · exact iht _ _ _ h
    · cases h
  | «for» tg k a b s ih =>
    intro env r env' h
    simp only [evS] at h
    obtain ⟨v, env1, h⟩ := toS_rt h
    exact forL_rt ih _ _ _ _ h
  | wh n c s ih =>
    intro env r env' h
    simp only [evS] at h
    exact whL_rt ih _ _ _ _ h
  | ret e =>
    intro env r env' h
    simp only [evS] at h
    obtain ⟨v, env1, h⟩ := toS_rt h
    split at h
    · rename_i hl
      cases h
      exact low_md hl
    · cases h
  | retN => intro env r env' h; cases h; exact .inl rfl
  | never => intro env r env' h; cases h
theorem runF_val {C : Calls} {F : Fn} {rs : List Val} {r : Val} {fin : Option D} (h : runF C F rs = .ok r fin) : r.1 = .sh ∨ r.1 = .fr := by
  unfold runF at h
  split at h
  · cases h
  · split at h
    · cases h
    · split at h
      · split at h
        · cases h
        · cases h; exact .inl rfl
      · rename_i hr
        split at h
        · cases h
        · cases h; exact evS_rt _ _ _ _ hr
      · split at h <;> cases h
      · cases h
theorem runF_arg {C : Calls} {F : Fn} {rs : List Val} (h : runF C F rs ≠ .stuck) : ∃ env0, argS F.pm rs = some env0 ∧ oneMu F.pm = true := by
  unfold runF at h
  split at h
  · exact absurd rfl h
  · rename_i e he
    split at h
    · exact absurd rfl h
    · rename_i ho
      exact ⟨e, he, by simpa using ho⟩

/-! ### the table -/
structure Row where
  F : Fn
  st : Stmt
  ps : List Str
structure Stat (T : Tab) (cs : List (Str × D)) (r : Row) : Prop where
  mt : mS T cs r.F.N (fun _ => true) (defScope r.st) r.F.body (defBody r.st) = true
  sc : FnScope r.F.N r.ps (defScope r.st)
  l1 : r.F.pm.length = r.ps.length
  l2 : r.ps.length ≤ r.F.N.length
  bd : ∀ (kV doc pm : Value) (an : Option Addr) (cdv ct : Value) (us : List Value), us.length = r.ps.length → bindArgs (PySem.W.fnOf r.F.name r.F.name (defArgs r.st) (defBody r.st) (defScope r.st) .none kV doc pm an cdv ct) ⟨us, []⟩ = pure (r.ps.zip us)
def tabOf (rows : List Row) : Tab := rows.map fun r => (r.F.name, r.F)
theorem tabOf_at : ∀ {rows : List Row} {f : Str} {F : Fn}, (tabOf rows).lookup f = some F → ∃ r ∈ rows, r.F = F ∧ F.name = f := by
  intro rows
  induction rows with
  | nil => intro f F h; cases h
  | cons r rows ih =>
    intro f F h
    unfold tabOf at h
    rw [List.map_cons, List.lookup_cons] at h
    split at h
    · rename_i e
      cases h
      exact ⟨r, .head _, rfl, (beq_iff_eq.mp e).symm⟩
    · obtain ⟨r', hr, h1, h2⟩ := ih h
      exact ⟨r', .tail _ hr, h1, h2⟩
structure Facts (cs : List (Str × D)) (rows : List Row) (K : PySem.W.Frag) (mg : Str → Option Value) : Prop where
  blt : ∀ x, x ∈ bnames → mg x = none
  gls : ∀ x d, (x, d) ∈ cs → ∃ u v, mg x = some u ∧ flatD d = some v ∧ RelV v u
  fns : ∀ r ∈ rows, ∃ fa fd, mg r.F.name = some (.ref fa) ∧ Fun K r.F.name r.F.name r.st fa fd
section
variable {cs : List (Str × D)} {rows : List Row} {P : Program} {w : World} {K : PySem.W.Frag} {mg : Str → Option Value} {base : Heap} {μ : Mo}
theorem mod_ok (F : Facts cs rows K mg) (st : ∀ r ∈ rows, Stat (tabOf rows) cs r) : ∀ k, ModOk (tabOf rows) cs (callN (tabOf rows) k) k P w K mg base μ := by
  intro k
  induction k with
  | zero =>
    refine ⟨F.blt, F.gls, fun f G _ rs h => absurd rfl h, fun f rs r fin h => (nomatch (show CR.stuck = .ok r fin from h)), fun f G hG => ?_⟩
    obtain ⟨r, hr, rfl, rfl⟩ := tabOf_at hG
    obtain ⟨fa, fd, hm, Fu⟩ := F.fns r hr
    have s := st r hr
    have no : ∀ vs H Q E, ¬ spC μ (callN (tabOf rows) 0 r.F.name) r.F.pm vs H Q E := fun vs H Q E h => by
      obtain ⟨O, M, rs, env0, _, _, _, _, _, _, _, hP⟩ := h
      exact hP
    exact ⟨fa, fd, r.ps, hm, Fu.kp, Fu.binds s.bd, ⟨fun vs H Q E h => (no vs H Q E h).elim, fun A outer s H args us vs Q E _ _ _ _ h => (no vs H Q E h).elim⟩⟩
  | succ k ih =>
    refine ⟨F.blt, F.gls, fun f G hG rs h => ?_, fun f rs r fin h => ?_, fun f G hG => ?_⟩
    · unfold callN at h
      simp only [hG] at h
      exact runF_arg h
    · unfold callN at h
      split at h
      · exact runF_val h
      · cases h
    · have e : callN (tabOf rows) (k + 1) f = fun rs => runF (callN (tabOf rows) k) G rs := by
        funext rs
        show (match (tabOf rows).lookup f with | some F => runF (callN (tabOf rows) k) F rs | none => .stuck) = _
        rw [hG]
      rw [e]
      obtain ⟨r, hr, rfl, rfl⟩ := tabOf_at hG
      obtain ⟨fa, fd, hm, Fu⟩ := F.fns r hr
      have s := st r hr
      exact ⟨fa, fd, r.ps, hm, Fu.kp, Fu.binds s.bd, def_ok Fu s.sc s.mt s.l1 s.l2 ih⟩

/-! ### one object left out of the written part -/
def without (K : PySem.W.Frag) (a : Addr) : PySem.W.Frag := K.filter fun e => !(a == e.1)
theorem without_self {a : Addr} : ∀ K : PySem.W.Frag, (without K a).lookup a = none := by
  intro K
  induction K with
  | nil => rfl
  | cons e K ih =>
    obtain ⟨b, o⟩ := e
    unfold without
    rw [List.filter_cons]
    cases h : (a == b) with
    | true => simp only [h, Bool.not_true, Bool.false_eq_true, if_false]; exact ih
    | false => simp only [h, Bool.not_false, if_true, List.lookup_cons]; exact ih
theorem without_ne {a b : Addr} (n : b ≠ a) : ∀ K : PySem.W.Frag, (without K a).lookup b = K.lookup b := by
  intro K
  induction K with
  | nil => rfl
  | cons e K ih =>
    obtain ⟨c, o⟩ := e
    unfold without
    rw [List.filter_cons]
    cases h : (a == c) with
    | true =>
      simp only [h, Bool.not_true, Bool.false_eq_true, if_false, List.lookup_cons]
      have : (b == c) = false := beq_eq_false_iff_ne.mpr fun z => n (z.trans (beq_iff_eq.mp h).symm)
      rw [this]; exact ih
    | false =>
      simp only [h, Bool.not_false, if_true, List.lookup_cons]
      split
      · rfl
      · exact ih
theorem without_in {a : Addr} {h : Heap} (X : K.In h) : (without K a).In h := fun b o e => by
  by_cases n : b = a
  · subst n; rw [without_self] at e; cases e
  · rw [without_ne n] at e; exact X b o e
theorem fun_without {a : Addr} {h : Heap} {x q : Str} {st : Stmt} {f : Addr} {fd : FuncData} {o : Obj} {its : Array Value} {n : Nat} (X : K.In h) (ha : h.get? a = some o) (hd : o.data = .seq its n) (Fu : Fun K x q st f fd) : Fun (without K a) x q st f fd := by
  obtain ⟨⟨oc, od, kV, doc, pm, an, cdv, ct, osl, rfl, lk, hcd⟩, kp⟩ := Fu
  have nf : f ≠ a := fun z => by
    subst z
    have := X _ _ lk
    rw [ha] at this
    cases this
    cases hd
  refine ⟨⟨oc, od, kV, doc, pm, an, cdv, ct, osl, rfl, by rw [without_ne nf]; exact lk, ?_⟩, ?_⟩
  · unfold PySem.W.codeIn at hcd ⊢
    split at hcd
    · rename_i c
      by_cases nc : c = a
      · subst nc
        split at hcd
        · rename_i l2
          have := X _ _ l2
          rw [ha] at this
          cases this
          cases hd
        · cases hcd
      · rw [without_ne nc]; exact hcd
    · cases hcd
  · unfold PySem.W.keepIn
    simp only [without_ne nf, lk]
theorem Facts.without {a : Addr} {h : Heap} {o : Obj} {its : Array Value} {n : Nat} (X : K.In h) (ha : h.get? a = some o) (hd : o.data = .seq its n) (F : Facts cs rows K mg) : Facts cs rows (En.without K a) mg :=
  ⟨F.blt, F.gls, fun r hr => let ⟨fa, fd, hm, Fu⟩ := F.fns r hr; ⟨fa, fd, hm, fun_without X ha hd Fu⟩⟩

/-! ### the end of a law -/
def mo0 : Mo := ⟨fun _ _ _ _ => False, fun _ _ _ _ _ => False, fun _ _ _ _ _ _ _ h => h⟩
theorem ints_rp {H : Hp} {O : OS} : ∀ ns : List Int, Rps H O (ns.map V.int) (ns.map D.int)
  | [] => .nil
  | n :: ns => .cons (.int n) (ints_rp ns)
theorem law_end {l : PySem.W.OpenLaw} {n k : Nat} {q : Program} {loose : List Str} {XP : (Str → Option Value) → Heap → Prop} {YP : World → Heap → Prop} {d : DefRec} {r : Row} {x : Str}
    (hn : l.most = some n) (hn2 : n ≤ sizeLine) (hdf : d.params.defaults = []) (hr : Room (k + 1) callerA)
    (st : ∀ r ∈ rows, Stat (tabOf rows) cs r) (hl : (tabOf rows).lookup d.name = some r.F) (hrm : r ∈ rows) (hps : r.ps = [x]) (hpm : r.F.pm = [.sh])
    (F : ∀ (w : World) (mg : Str → Option Value) (h : Heap), YP w h → h.Ns mainGlobals mg → ∃ K : PySem.W.Frag, K.In h ∧ Facts cs rows K mg)
    (run : ∀ ns : List Int, ns.length ≤ n → (∀ z ∈ ns, Builtin.Int.intBits z ≤ 1048576) → runF (callN (tabOf rows) k) r.F [(.sh, .lst (ns.map D.int))] = .ok (.sh, .bl true) none) :
    PySem.W.WalkO q loose XP YP l.row.toRowW d [] (fun f vs => PySem.call f vs) := by
  refine Att.attach_callB hn hdf fun w s₀ s₁ mg mb fa o pm cd doc a vs ns G Y ho hd hcd hmg hobj hints hlen hbits hg => ?_
  obtain ⟨K0, KX0, F0⟩ := F w mg _ Y G.T.g
  have F1 := F0.without KX0 hobj rfl
  have KX := without_in (a := a) KX0
  obtain ⟨r', _, _, hrn⟩ := tabOf_at hl
  obtain ⟨fa', fd, hm, Fu⟩ := F1.fns r hrm
  have s := st r hrm
  rw [hrn, hmg] at hm
  cases hm
  have bd : Binds (without K0 a) fd r.ps [] := Fu.binds s.bd
  have bd' : ∀ (s : Shared) (u : Value), BindsTo s fd ⟨[u], []⟩ [(x, u)] := fun sh u => by
    obtain ⟨oc, od, kV, doc, pm, an, cdv, ct, osl, rfl, lk, hcd⟩ := Fu.ex
    have := BindsTo.of_eq (s := sh) (s.bd kV doc pm an cdv ct [u] (by rw [hps]; rfl))
    rw [hps] at this
    exact this
  refine law_call (CX := L2.CX l.prog w) (k := k + 1) (x := x) (sp := spC mo0 (fun rs => runF (callN (tabOf rows) k) r.F rs) r.F.pm) KX G.T.g G.T.b G.T.builtins G.T.nolimit hg hobj hints (Nat.le_trans hlen hn2) hr
    (fun base _ _ => hps ▸ def_ok Fu s.sc s.mt s.l1 s.l2 (mod_ok F1 st k)) bd' (fun H hO hS => ?_) fun H e s' h => ?_
  · rcases hS with hS | ⟨o, its, m, lk, _⟩
    · refine ⟨fun _ => False, fun _ => False, [(.sh, .lst (ns.map D.int))], [some (.sh, .lst (ns.map D.int))], fun _ z => z.elim, fun _ z => z, fun _ _ z => z.elim, ?_, ?_, ?_, fun _ _ z => z, ?_⟩
      · rw [hpm]; rfl
      · rw [hpm]; rfl
      · rw [hpm]; exact .sh rfl (.lst (fun z => z) hS (ints_rp ns)) .nil
      · show PostC _ _ _ _ _ _ (runF (callN (tabOf rows) k) r.F [(.sh, .lst (ns.map D.int))])
        rw [run ns hlen hbits]
        intro _ v H' cr
        rcases cr.res with ⟨d, e, rv, _⟩ | ⟨d, p, e, _⟩
        · cases e; cases rv; rfl
        · cases e
    · rw [without_self] at lk; cases lk
  · obtain ⟨_, _, _, _, _, _, _, _, _, _, _, _, z⟩ := h
    exact z

/-! ### the head's facts -/
def faC : Str × D → He.Fa
  | (x, .int i) => .int x i
  | (x, .str z) => .str x z
  | (x, _) => .glo x
def okC : Str × D → Bool
  | (_, .int _) => true
  | (_, .str _) => true
  | _ => false
def fasOf (cs : List (Str × D)) (rows : List Row) : List He.Fa := (rows.map fun r => He.Fa.glo r.F.name) ++ ((rows.map fun r => He.Fa.keep r.F.name) ++ ((bnames.map He.Fa.free) ++ cs.map faC))
def fnsOf (rows : List Row) : List He.FnD := rows.map fun r => ⟨(r.F.name, none), r.F.name, r.F.name, defArgs r.st, defBody r.st, defScope r.st⟩
theorem says_mem {fa : List He.Fa} {fn : List He.FnD} (c : He.SaysE fa fn K) {f : He.Fa} (h : f ∈ fa) : f.ok K = true := by
  obtain ⟨i, hi⟩ := List.mem_iff_getElem?.mp h
  exact c.fact i hi
theorem facts_of {h : Heap} (X : K.In h) (G : h.Ns mainGlobals mg) (hc : cs.all okC = true) (c : He.SaysE (fasOf cs rows) (fnsOf rows) K) : Facts cs rows K mg := by
  refine ⟨fun x hx => He.free_ok X G (says_mem c ?_), fun x d hx => ?_, fun r hr => ?_⟩
  · exact List.mem_append_right _ (List.mem_append_right _ (List.mem_append_left _ (List.mem_map.mpr ⟨x, hx, rfl⟩)))
  · have m : faC (x, d) ∈ fasOf cs rows := List.mem_append_right _ (List.mem_append_right _ (List.mem_append_right _ (List.mem_map.mpr ⟨_, hx, rfl⟩)))
    have o := List.all_eq_true.mp hc _ hx
    cases d with
    | int i =>
      obtain ⟨t, e⟩ := He.int_ok X G (says_mem c m)
      exact ⟨_, .int i, e, rfl, ⟨t, rfl⟩⟩
    | str z =>
      obtain ⟨t, e⟩ := He.str_ok X G (says_mem c m)
      exact ⟨_, .str z, e, rfl, ⟨t, rfl⟩⟩
    | _ => cases o
  · have g := He.glo_ok X G (says_mem c (List.mem_append_left _ (List.mem_map.mpr ⟨r, hr, rfl⟩)))
    have k := He.keep_ok (says_mem c (List.mem_append_right _ (List.mem_append_left _ (List.mem_map.mpr ⟨r, hr, rfl⟩))))
    obtain ⟨i, hi⟩ := List.mem_iff_getElem?.mp (List.mem_map.mpr ⟨r, hr, rfl⟩ : (⟨(r.F.name, none), r.F.name, r.F.name, defArgs r.st, defBody r.st, defScope r.st⟩ : He.FnD) ∈ fnsOf rows)
    obtain ⟨oc, od, osl, kV, doc, pm, an, cdv, ct, lk, cd⟩ := c.def_ i hi
    exact ⟨He.ga K r.F.name, _, g, ⟨⟨oc, od, kV, doc, pm, an, cdv, ct, osl, rfl, lk, cd⟩, k⟩⟩
end
end En
end

section
set_option Elab.async false
set_option linter.all false
set_option maxRecDepth 100000
namespace En
open PySem
section
variable {C : Calls} {env : Env}
theorem e_var {i : Nat} : evE C (.var i) env = (match getS env i with
    | some (.sh, d) => .ok (.sh, d) env
    | _ => .stuck) := Eq.trans rfl rfl
theorem e_own {i : Nat} : evE C (.own i) env = (match getS env i with
    | some (.sh, d) => .ok (.sh, d) env
    | some (_, d) => .ok (.bo, d) env
    | none => .stuck) := Eq.trans rfl rfl
theorem e_fz {i : Nat} : evE C (.fz i) env = (match getS env i with
    | some (.sh, d) => .ok (.sh, d) env
    | some (.ow, d) => .ok (.sh, d) (setS env i (some (.sh, d)))
    | _ => .stuck) := Eq.trans rfl rfl
theorem e_mv {i : Nat} : evE C (.mv i) env = (match getS env i with
    | some (.ow, d) => .ok (.fr, d) (setS env i none)
    | _ => .stuck) := Eq.trans rfl rfl
theorem e_mut {i : Nat} : evE C (.mut i) env = (match getS env i with
    | some (.ow, d) => .ok (.mu i, d) env
    | some (.mu, d) => .ok (.mu i, d) env
    | _ => .stuck) := Eq.trans rfl rfl
theorem e_lit {d : D} : evE C (.lit d) env = (.ok (.sh, d) env) := Eq.trans rfl rfl
theorem e_gl {y : Str} {d : D} : evE C (.gl y d) env = (.ok (.sh, d) env) := Eq.trans rfl rfl
theorem e_un {o : U1} {a : E} : evE C (.un o a) env = ((evE C a env).bind fun v env => match rdy v with
    | some d => ofO (op1 o d) env
    | none => .stuck) := Eq.trans rfl rfl
theorem e_bin {o : U2} {a : E} {b : E} : evE C (.bin o a b) env = ((evE C a env).bind fun v env => (evE C b env).bind fun w env => if inp v && !b.quiet then .stuck else match rdy v, rdy w with
    | some d, some e => ofO (op2 o d e) env
    | _, _ => .stuck) := Eq.trans rfl rfl
theorem e_sl {a : E} {lo : E} {hi : E} : evE C (.sl a lo hi) env = ((evE C a env).bind fun v env => (evO (evE C lo) lo env).bind fun l env => (evO (evE C hi) hi env).bind fun h env =>
    if inp v && !(lo.quiet && hi.quiet) then .stuck else match rdy v with
    | some d => ofO (opSl d l h) env
    | none => .stuck) := Eq.trans rfl rfl
theorem e_nix  : evE C (.nix) env = (.ok (.sh, .non) env) := Eq.trans rfl rfl
theorem e_chain {o : U2} {o' : U2} {a : E} {b : E} {c : E} : evE C (.chain o o' a b c) env = ((evE C a env).bind fun u env => (evE C b env).bind fun v env => match u, v with
    | (.sh, du), (.sh, dv) => (match op2 o du dv with
      | some (.sh, .bl true) => (evE C c env).bind fun w env => match w with
        | (.sh, dw) => ofO (op2 o' dv dw) env
        | _ => .stuck
      | some (.sh, .bl false) => .ok (.sh, .bl false) env
      | _ => .stuck)
    | _, _ => .stuck) := Eq.trans rfl rfl
theorem e_and {a : E} {b : E} : evE C (.and a b) env = ((evE C a env).bind fun v env => match v with
    | (.sh, .bl true) => evE C b env
    | (.sh, .bl false) => .ok (.sh, .bl false) env
    | _ => .stuck) := Eq.trans rfl rfl
theorem e_or {a : E} {b : E} : evE C (.or a b) env = ((evE C a env).bind fun v env => match v with
    | (.sh, .bl true) => .ok (.sh, .bl true) env
    | (.sh, .bl false) => evE C b env
    | _ => .stuck) := Eq.trans rfl rfl
theorem e_one {a : E} : evE C (.one a) env = (evE C a env) := Eq.trans rfl rfl
theorem e_not {a : E} : evE C (.not a) env = ((evE C a env).bind fun v env => match v with
    | (.sh, .bl b) => .ok (.sh, .bl (!b)) env
    | _ => .stuck) := Eq.trans rfl rfl
theorem e_ite {c : E} {a : E} {b : E} : evE C (.ite c a b) env = ((evE C c env).bind fun v env => match v with
    | (.sh, .bl true) => evE C a env
    | (.sh, .bl false) => evE C b env
    | _ => .stuck) := Eq.trans rfl rfl
theorem e_tup {as : E} : evE C (.tup as) env = ((evA C as env).bind fun vs env => match lows vs with
    | some ds => if szOk ds.length then .ok (.sh, .tup ds) env else .stuck
    | none => .stuck) := Eq.trans rfl rfl
theorem e_lst {as : E} : evE C (.lst as) env = ((evA C as env).bind fun vs env => match lows vs with
    | some ds => if szOk ds.length then .ok (.fr, .lst ds) env else .stuck
    | none => .stuck) := Eq.trans rfl rfl
theorem e_dic0  : evE C (.dic0) env = (.ok (.fr, .dic []) env) := Eq.trans rfl rfl
theorem e_dic1 {k : E} {v : E} : evE C (.dic1 k v) env = ((evE C k env).bind fun a env => (evE C v env).bind fun b env => match a, low b with
    | (.sh, .str x), some d => .ok (.fr, .dic [(.str x, d)]) env
    | _, _ => .stuck) := Eq.trans rfl rfl
theorem e_call {f : Str} {as : E} : evE C (.call f as) env = ((evA C as env).bind fun vs env => if (as.quiet && (muOf vs).isSome) || !muOk env vs then .stuck else match C f (refr env vs) with
    | .ok v none => match muOf vs with
      | none => .ok v env
      | some _ => .stuck
    | .ok v (some d) => match muOf vs with
      | none => .stuck
      | some i => .ok v (putBack env i d)
    | .exc x => match muOf vs with
      | none => .exc x env
      | some _ => .stuck
    | .stuck => .stuck) := Eq.trans rfl rfl
theorem e_get {d : E} {k : E} {x : E} : evE C (.get d k x) env = ((evE C d env).bind fun v env => (evE C k env).bind fun kk env => (evE C x env).bind fun xx env =>
    if inp v && !(k.quiet && x.quiet) then .stuck else match rdy v, kk, low xx with
    | some (.dic kvs), (.sh, .str y), some z => .ok (.sh, (dget kvs (.str y)).getD z) env
    | _, _, _ => .stuck) := Eq.trans rfl rfl
theorem e_pop {i : Nat} : evE C (.pop i) env = (match getS env i with
    | some (m, .lst ds) => if m == .sh then .stuck else match ds.getLast? with
      | some d => .ok (.sh, d) (setS env i (some (m, .lst ds.dropLast)))
      | none => .stuck
    | _ => .stuck) := Eq.trans rfl rfl
theorem e_popAt {i : Nat} {k : E} : evE C (.popAt i k) env = ((evE C k env).bind fun v env => match v, getS env i with
    | (.sh, .int j), some (m, .lst ds) => if m == .sh then .stuck else match L2.ixN ds.length j with
      | some n => match ds[n]? with
        | some d => .ok (.sh, d) (setS env i (some (m, .lst (ds.eraseIdx n))))
        | none => .stuck
      | none => .stuck
    | _, _ => .stuck) := Eq.trans rfl rfl
theorem e_setdef {i : Nat} {k : E} {x : E} : evE C (.setdef i k x) env = ((evE C k env).bind fun v env => (evE C x env).bind fun w env => match v, low w, getS env i with
    | (.sh, .str y), some d, some (m, .dic kvs) => if m == .sh then .stuck else match dget kvs (.str y) with
      | some z => .ok (.sh, z) env
      | none => if szOk (kvs.length + 1) then .ok (.sh, d) (setS env i (some (m, .dic (dput kvs (.str y) d)))) else .stuck
    | _, _, _ => .stuck) := Eq.trans rfl rfl
theorem e_lc {own : List (Str × Nat)} {tg : Tg} {k : ItK} {a b c e : E} {xs ds : List D} {env1 env2 : Env} (h1 : evI (evE C a) (evE C b) k env = .ok xs env1) (h2 : (own.map (·.2)).any (isOw env1) = false) (h3 : lcL (evE C c) (evE C e) tg (own.map (·.2)) xs [] (wipeE env1 (own.map (·.2))) = .ok ds env2) : evE C (.lc own tg k a b c e) env = .ok (.fr, .lst ds) env2 := by
  show ((evI (evE C a) (evE C b) k env).bind fun xs env => if (own.map (·.2)).any (isOw env) then .stuck else (lcL (evE C c) (evE C e) tg (own.map (·.2)) xs [] (wipeE env (own.map (·.2)))).bind fun ds env' => R.ok ((Md.fr, D.lst ds) : Val) env') = _
  rw [h1]; simp [h2, h3]
theorem a_nil : evA C .nil env = .ok [] env := Eq.trans rfl rfl
theorem a_cons {a r : E} : evA C (.cons a r) env = ((evE C a env).bind fun v env => (evA C r env).bind fun vs env => if inp v then .stuck else .ok (v :: vs) env) := Eq.trans rfl rfl
theorem s_skip  : evS C (.skip) env = (.nx env) := Eq.trans rfl rfl
theorem s_seq {s : S} {t : S} : evS C (.seq s t) env = (match evS C s env with
    | .nx env1 => evS C t env1
    | r => r) := Eq.trans rfl rfl
theorem s_asg {i : Nat} {ow : Bool} {e : E} : evS C (.asg i ow e) env = ((evE C e env).toS fun v env => if isMu env i then .stuck else if env.length ≤ i then .stuck else match ow, v with
    | true, (.fr, d) => .nx (setS env i (some (.ow, d)))
    | false, v => match low v with
      | some d => .nx (setS env i (some (.sh, d)))
      | none => .stuck
    | _, _ => .stuck) := Eq.trans rfl rfl
theorem s_asgT {is : List Nat} {e : E} : evS C (.asgT is e) env = ((evE C e env).toS fun v env => match low v with
    | some (.tup ds) => ofE (bindL is ds env)
    | some (.lst ds) => ofE (bindL is ds env)
    | _ => .stuck) := Eq.trans rfl rfl
theorem s_asgP {i : Nat} {j : Nat} {a : E} {b : E} : evS C (.asgP i j a b) env = ((evE C a env).toS fun v env => (evE C b env).toS fun w env => match low v, low w with
    | some d, some e => if i == j then .stuck else ofE (bindL [i, j] [d, e] env)
    | _, _ => .stuck) := Eq.trans rfl rfl
theorem s_aug {i : Nat} {e : E} : evS C (.aug i e) env = (if (getS env i).isNone then .stuck else (evE C e env).toS fun v env => match getS env i, rdy v with
    | some (.sh, .int a), some (.int b) => .nx (setS env i (some (.sh, .int (a + b))))
    | some (m, .lst xs), some (.lst ys) => if m == .sh then .stuck else if szOk (xs.length + ys.length) then .nx (setS env i (some (m, .lst (xs ++ ys)))) else .stuck
    | _, _ => .stuck) := Eq.trans rfl rfl
theorem s_setI {i : Nat} {k : E} {e : E} : evS C (.setI i k e) env = ((evE C e env).toS fun v env => (evE C k env).toS fun w env => match low v, w, getS env i with
    | some d, (.sh, .int j), some (m, .lst ds) => if m == .sh then .stuck else match L2.ixN ds.length j with
      | some n => .nx (setS env i (some (m, .lst (ds.set n d))))
      | none => .stuck
    | some d, (.sh, .str y), some (m, .dic kvs) => if m == .sh then .stuck else if szOk (kvs.length + 1) then .nx (setS env i (some (m, .dic (dput kvs (.str y) d)))) else .stuck
    | _, _, _ => .stuck) := Eq.trans rfl rfl
theorem s_app {i : Nat} {e : E} : evS C (.app i e) env = ((evE C e env).toS fun v env => match low v, getS env i with
    | some d, some (m, .lst ds) => if m == .sh then .stuck else if szOk (ds.length + 1) then .nx (setS env i (some (m, .lst (ds ++ [d])))) else .stuck
    | _, _ => .stuck) := Eq.trans rfl rfl
theorem s_clear {i : Nat} : evS C (.clear i) env = (match getS env i with
    | some (m, .lst _) => if m == .sh then .stuck else .nx (setS env i (some (m, .lst [])))
    | _ => .stuck) := Eq.trans rfl rfl
theorem s_ex {e : E} : evS C (.ex e) env = ((evE C e env).toS fun _ env => .nx env) := Eq.trans rfl rfl
theorem s_ite {c : E} {s : S} {t : S} : evS C (.ite c s t) env = ((evE C c env).toS fun v env => match v with
    | (.sh, .bl true) => evS C s env
    | (.sh, .bl false) => evS C t env
    | _ => .stuck) := Eq.trans rfl rfl
theorem s_ret {e : E} : evS C (.ret e) env = ((evE C e env).toS fun v env => match low v with
    | some _ => .rt v env
    | none => .stuck) := Eq.trans rfl rfl
theorem s_retN  : evS C (.retN) env = (.rt (.sh, .non) env) := Eq.trans rfl rfl
theorem s_never  : evS C (.never) env = (.stuck) := Eq.trans rfl rfl
theorem s_for {tg : Tg} {k : ItK} {a b : E} {s : S} {xs : List D} {env1 : Env} (h1 : evI (evE C a) (evE C b) k env = .ok xs env1) : evS C (.for tg k a b s) env = forL tg (evS C s) xs env1 := by
  show ((evI (evE C a) (evE C b) k env).toS fun xs env => forL tg (evS C s) xs env) = _
  rw [h1]; rfl
theorem s_wh {n : Nat} {c : E} {s : S} : evS C (.wh n c s) env = whL (evE C c) (evS C s) n env := Eq.trans rfl rfl
end
end En
end

section
open En PySem
namespace Sh
def b_is_blank : S := (.seq (.ret (.un (.isK .str) (.var 0)))
    .skip)
def f_is_blank : Fn := ⟨"is_blank", ["term"], [.sh], b_is_blank⟩

def b_inner : S := (.seq (.ite (.call "is_blank" (.cons (.var 0) .nil))
    (.seq (.ret (.lst .nil))
    .skip)
    .skip)
    (.seq (.ret (.un .list (.sl (.var 0) (.lit (.int 1)) .nix)))
    .skip))
def f_inner : Fn := ⟨"inner", ["term"], [.sh], b_inner⟩

def b_parts_of : S := (.seq (.ret (.bin .add (.lit (.int 1)) (.un .sum (.lc [("part", 1)] (.one 1) .seq (.call "inner" (.cons (.var 0) .nil)) .nix (.lit (.bl true)) (.call "parts_of" (.cons (.var 1) .nil))))))
    .skip)
def f_parts_of : Fn := ⟨"parts_of", ["term", "part"], [.sh], b_parts_of⟩

def b_places_of : S := (.seq (.asg 1 true (.lst (.cons (.tup .nil) .nil)))
    (.seq (.for (.many [2, 3]) .enum (.call "inner" (.cons (.var 0) .nil)) .nix
    (.seq (.aug 1 (.lc [("place", 4)] (.one 4) .seq (.call "places_of" (.cons (.var 3) .nil)) .nix (.lit (.bl true)) (.bin .add (.tup (.cons (.var 2) .nil)) (.var 4))))
    .skip))
    (.seq (.ret (.mv 1))
    .skip)))
def f_places_of : Fn := ⟨"places_of", ["term", "found", "k", "part", "place"], [.sh], b_places_of⟩

def b__law_cell : S := (.seq (.ite (.bin .lt (.var 1) (.un .len (.var 0)))
    (.seq (.ret (.bin .idx (.var 0) (.var 1)))
    .skip)
    .skip)
    (.seq (.ret (.lit (.int 0)))
    .skip))
def f__law_cell : Fn := ⟨"_law_cell", ["_law_script", "_law_k"], [.sh, .sh], b__law_cell⟩

def b__law_words : S := (.seq (.asg 1 false (.lit (.str "abcdefghijklmnopqrstuvwxyz")))
    (.seq (.asg 2 false (.bin .mod (.bin .mul (.var 0) (.lit (.int 1000000007))) (.bin .pow (.lit (.int 10)) (.lit (.int 18)))))
    (.seq (.asg 3 false (.lit (.str "")))
    (.seq (.for (.one 4) .rng (.bin .mod (.var 2) (.lit (.int 7))) .nix
    (.seq (.asg 3 false (.bin .add (.var 3) (.bin .idx (.var 1) (.bin .mod (.bin .fdiv (.var 2) (.lit (.int 7))) (.lit (.int 26))))))
    (.seq (.asg 2 false (.bin .fdiv (.var 2) (.lit (.int 11))))
    .skip)))
    (.seq (.asg 5 false (.bin .mod (.bin .fdiv (.var 2) (.lit (.int 7))) (.bin .add (.un .len (.var 3)) (.lit (.int 1)))))
    (.seq (.ite (.bin .eq (.bin .mod (.var 2) (.lit (.int 3))) (.lit (.int 0)))
    (.seq (.asg 3 false (.un .join (.lc [("_law_k", 4)] (.one 4) .rng (.lit (.int 6)) .nix (.lit (.bl true)) (.bin .idx (.var 1) (.bin .mod (.bin .fdiv (.var 2) (.bin .add (.lit (.int 3)) (.bin .mul (.var 4) (.var 4)))) (.lit (.int 26)))))))
    (.seq (.ret (.lc [("_law_k", 4)] (.one 4) .rng (.lit (.int 5)) .nix (.lit (.bl true)) (.sl (.var 3) .nix (.bin .add (.var 4) (.lit (.int 1))))))
    .skip))
    .skip)
    (.seq (.ret (.lc [("_law_k", 4)] (.one 4) .rng (.lit (.int 5)) .nix (.lit (.bl true)) (.bin .add (.bin .add (.sl (.var 3) .nix (.var 5)) (.bin .idx (.var 1) (.bin .mod (.bin .add (.bin .fdiv (.var 2) (.lit (.int 5))) (.bin .mul (.lit (.int 5)) (.var 4))) (.lit (.int 26))))) (.sl (.var 3) (.var 5) .nix))))
    .skip)))))))
def f__law_words : Fn := ⟨"_law_words", ["_law_cell_here", "_law_letters", "_law_number", "_law_base", "_law_k", "_law_at"], [.sh], b__law_words⟩

def b__law_sorts : S := (.seq (.asg 1 false (.call "_law_words" (.cons (.var 0) .nil)))
    (.seq (.asg 2 false (.bin .idx (.lst (.cons (.lst (.cons (.lit (.int 0)) (.cons (.lit (.int 2)) (.cons (.lit (.int 1)) (.cons (.lit (.int 0)) (.cons (.lit (.int 3)) .nil)))))) (.cons (.lst (.cons (.lit (.int 0)) (.cons (.lit (.int 1)) (.cons (.lit (.int 2)) (.cons (.lit (.int 2)) (.cons (.lit (.int 0)) .nil)))))) (.cons (.lst (.cons (.lit (.int 0)) (.cons (.lit (.int 3)) (.cons (.lit (.int 1)) (.cons (.lit (.int 1)) (.cons (.lit (.int 0)) .nil)))))) (.cons (.lst (.cons (.lit (.int 0)) (.cons (.lit (.int 2)) (.cons (.lit (.int 0)) (.cons (.lit (.int 1)) (.cons (.lit (.int 1)) .nil)))))) .nil))))) (.bin .mod (.bin .fdiv (.var 0) (.lit (.int 3))) (.lit (.int 4)))))
    (.seq (.asg 3 false (.bin .add (.lit (.int 2)) (.bin .mod (.bin .fdiv (.var 0) (.lit (.int 12))) (.lit (.int 4)))))
    (.seq (.ret (.lc [("_law_k", 4)] (.one 4) .rng (.var 3) .nix (.lit (.bl true)) (.tup (.cons (.bin .idx (.var 1) (.var 4)) (.cons (.bin .idx (.var 2) (.var 4)) .nil)))))
    .skip))))
def f__law_sorts : Fn := ⟨"_law_sorts", ["_law_cell_here", "_law_words_here", "_law_counts", "_law_many", "_law_k"], [.sh], b__law_sorts⟩

def b__law_blanks : S := (.seq (.asg 1 false (.lit (.str "ABCDEFGHIJKLMNOPQRSTUVWXYZ")))
    (.seq (.ret (.lc [("_law_k", 2)] (.one 2) .rng (.bin .add (.lit (.int 1)) (.bin .mod (.bin .fdiv (.var 0) (.lit (.int 26))) (.lit (.int 4)))) .nix (.lit (.bl true)) (.bin .idx (.var 1) (.bin .mod (.bin .add (.bin .mod (.var 0) (.lit (.int 26))) (.bin .mul (.lit (.int 7)) (.var 2))) (.lit (.int 26))))))
    .skip))
def f__law_blanks : Fn := ⟨"_law_blanks", ["_law_cell_here", "_law_letters", "_law_k"], [.sh], b__law_blanks⟩

def b__law_grown : S := (.seq (.asgT [7, 8] (.bin .idx (.var 2) (.bin .mod (.var 1) (.un .len (.var 2)))))
    (.seq (.asg 1 false (.bin .fdiv (.var 1) (.lit (.int 20))))
    (.seq (.asg 5 false (.sl (.var 0) (.bin .sub (.un .len (.var 0)) (.var 8)) .nix))
    (.seq (.asg 6 false (.un .max0 (.lc [("_law_one", 9)] (.one 9) .seq (.var 5) .nix (.lit (.bl true)) (.bin .idx (.var 9) (.lit (.int 1))))))
    (.seq (.ite (.and (.bin .gt (.var 8) (.lit (.int 0))) (.and (.bin .le (.var 8) (.un .len (.var 0))) (.and (.bin .lt (.var 6) (.var 4)) (.one (.bin .gt (.bin .mod (.var 1) (.lit (.int 4))) (.lit (.int 0)))))))
    (.seq (.ret (.bin .add (.sl (.var 0) .nix (.bin .sub (.un .len (.var 0)) (.var 8))) (.lst (.cons (.lst (.cons (.bin .add (.tup (.cons (.var 7) .nil)) (.un .tuple (.lc [("_law_one", 9)] (.one 9) .seq (.var 5) .nix (.lit (.bl true)) (.bin .idx (.var 9) (.lit (.int 0)))))) (.cons (.bin .add (.var 6) (.lit (.int 1))) .nil))) .nil))))
    .skip)
    .skip)
    (.seq (.ite (.or (.bin .eq (.var 3) (.lst .nil)) (.one (.bin .eq (.bin .mod (.bin .fdiv (.var 1) (.lit (.int 4))) (.lit (.int 3))) (.lit (.int 0)))))
    (.seq (.ret (.bin .add (.var 0) (.lst (.cons (.lst (.cons (.tup (.cons (.bin .idx (.bin .idx (.var 2) (.lit (.int 0))) (.lit (.int 0))) .nil)) (.cons (.lit (.int 1)) .nil))) .nil))))
    .skip)
    .skip)
    (.seq (.ret (.bin .add (.var 0) (.lst (.cons (.lst (.cons (.bin .idx (.var 3) (.bin .mod (.bin .fdiv (.var 1) (.lit (.int 12))) (.un .len (.var 3)))) (.cons (.lit (.int 1)) .nil))) .nil))))
    .skip)))))))
def f__law_grown : Fn := ⟨"_law_grown", ["_law_row", "_law_number", "_law_sorts_here", "_law_blanks_here", "_law_most", "_law_last", "_law_nest", "_law_word", "_law_many", "_law_one"], [.sh, .sh, .sh, .sh, .sh], b__law_grown⟩

def b__law_count : S := (.seq (.ite (.un (.isK .str) (.var 0))
    (.seq (.ret (.lit (.int 1)))
    .skip)
    .skip)
    (.seq (.ret (.bin .add (.lit (.int 1)) (.un .sum (.lc [("_law_part", 1)] (.one 1) .seq (.sl (.var 0) (.lit (.int 1)) .nix) .nix (.lit (.bl true)) (.call "_law_count" (.cons (.var 1) .nil))))))
    .skip))
def f__law_count : Fn := ⟨"_law_count", ["_law_term", "_law_part"], [.sh], b__law_count⟩

def b__law_leads : S := (.seq (.ite (.not (.un (.isK .tup) (.var 1)))
    (.seq (.ret (.lit (.bl false)))
    .skip)
    .skip)
    (.seq (.for (.one 2) .seq (.var 1) .nix
    (.seq (.ite (.or (.not (.un (.isK .int) (.var 2))) (.or (.un (.isK .bl) (.var 2)) (.one (.un (.isK .str) (.var 0)))))
    (.seq (.ret (.lit (.bl false)))
    .skip)
    .skip)
    (.seq (.ite (.or (.bin .lt (.var 2) (.lit (.int 0))) (.one (.bin .ge (.bin .add (.var 2) (.lit (.int 1))) (.un .len (.var 0)))))
    (.seq (.ret (.lit (.bl false)))
    .skip)
    .skip)
    (.seq (.asg 0 false (.bin .idx (.var 0) (.bin .add (.lit (.int 1)) (.var 2))))
    .skip))))
    (.seq (.ret (.lit (.bl true)))
    .skip)))
def f__law_leads : Fn := ⟨"_law_leads", ["_law_term", "_law_place", "_law_k"], [.sh, .sh], b__law_leads⟩

def b__law_good : S := (.seq (.asg 1 false (.call "_law_count" (.cons (.var 0) .nil)))
    (.seq (.asg 2 false (.call "parts_of" (.cons (.var 0) .nil)))
    (.seq (.asg 3 false (.call "places_of" (.cons (.var 0) .nil)))
    (.seq (.ite (.or (.not (.un (.isK .int) (.var 2))) (.or (.un (.isK .bl) (.var 2)) (.one (.bin .ne (.var 2) (.var 1)))))
    (.seq (.ret (.lit (.bl false)))
    .skip)
    .skip)
    (.seq (.ite (.or (.not (.un (.isK .lst) (.var 3))) (.one (.bin .ne (.un .len (.var 3)) (.var 1))))
    (.seq (.ret (.lit (.bl false)))
    .skip)
    .skip)
    (.seq (.ite (.bin .gt (.un .len (.lc [("_law_place", 5)] (.one 5) .seq (.var 3) .nix (.not (.call "_law_leads" (.cons (.var 0) (.cons (.var 5) .nil)))) (.var 5))) (.lit (.int 0)))
    (.seq (.ret (.lit (.bl false)))
    .skip)
    .skip)
    (.seq (.for (.one 4) .rng (.bin .sub (.un .len (.var 3)) (.lit (.int 1))) .nix
    (.seq (.ite (.bin .ge (.bin .idx (.var 3) (.var 4)) (.bin .idx (.var 3) (.bin .add (.var 4) (.lit (.int 1)))))
    (.seq (.ret (.lit (.bl false)))
    .skip)
    .skip)
    .skip))
    (.seq (.ret (.lit (.bl true)))
    .skip))))))))
def f__law_good : Fn := ⟨"_law_good", ["_law_term", "_law_many", "_law_count_here", "_law_found", "_law_k", "_law_place"], [.sh], b__law_good⟩

def b_law : S := (.seq (.asg 1 false (.call "_law_sorts" (.cons (.call "_law_cell" (.cons (.var 0) (.cons (.lit (.int 0)) .nil))) .nil)))
    (.seq (.asg 2 false (.call "_law_blanks" (.cons (.call "_law_cell" (.cons (.var 0) (.cons (.lit (.int 1)) .nil))) .nil)))
    (.seq (.asg 3 false (.lst .nil))
    (.seq (.for (.one 4) .seq (.bin .add (.lst (.cons (.lit (.int 0)) .nil)) (.sl (.var 0) (.lit (.int 2)) (.lit (.int 41)))) .nix
    (.seq (.asg 3 false (.call "_law_grown" (.cons (.var 3) (.cons (.bin .mod (.bin .mul (.var 4) (.lit (.int 1000000007))) (.lit (.int 2147483647))) (.cons (.var 1) (.cons (.var 2) (.cons (.lit (.int 15)) .nil)))))))
    (.seq (.ite (.not (.call "_law_good" (.cons (.bin .idx (.bin .idx (.var 3) (.un .neg (.lit (.int 1)))) (.lit (.int 0))) .nil)))
    (.seq (.ret (.lit (.bl false)))
    .skip)
    .skip)
    .skip)))
    (.seq (.ret (.lit (.bl true)))
    .skip)))))
def f_law : Fn := ⟨"law", ["_law_script", "_law_sorts_here", "_law_blanks_here", "_law_row", "_law_cell_here"], [.sh], b_law⟩

def b_part_at : S := (.seq (.asg 2 false (.var 0))
    (.seq (.for (.one 3) .seq (.var 1) .nix
    (.seq (.asg 4 false (.call "inner" (.cons (.var 2) .nil)))
    (.seq (.ite (.not (.chain .le .lt (.lit (.int 0)) (.var 3) (.un .len (.var 4))))
    (.seq .never
    .skip)
    .skip)
    (.seq (.asg 2 false (.bin .idx (.var 4) (.var 3)))
    .skip))))
    (.seq (.ret (.var 2))
    .skip)))
def f_part_at : Fn := ⟨"part_at", ["term", "place", "here", "k", "parts"], [.sh, .sh], b_part_at⟩

def b_with_part : S := (.seq (.ite (.bin .eq (.var 1) (.tup .nil))
    (.seq (.ret (.var 2))
    .skip)
    .skip)
    (.seq (.asg 3 true (.call "inner" (.cons (.var 0) .nil)))
    (.seq (.setI 3 (.bin .idx (.var 1) (.lit (.int 0))) (.call "with_part" (.cons (.bin .idx (.own 3) (.bin .idx (.var 1) (.lit (.int 0)))) (.cons (.sl (.var 1) (.lit (.int 1)) .nix) (.cons (.var 2) .nil)))))
    (.seq (.ret (.bin .add (.tup (.cons (.bin .idx (.var 0) (.lit (.int 0))) .nil)) (.un .tuple (.own 3))))
    .skip))))
def f_with_part : Fn := ⟨"with_part", ["term", "place", "new", "parts"], [.sh, .sh, .sh], b_with_part⟩

def b_put_at : S := (.seq (.ex (.call "part_at" (.cons (.var 0) (.cons (.var 1) .nil))))
    (.seq (.ret (.call "with_part" (.cons (.var 0) (.cons (.var 1) (.cons (.var 2) .nil)))))
    .skip))
def f_put_at : Fn := ⟨"put_at", ["term", "place", "new"], [.sh, .sh, .sh], b_put_at⟩

def b__law_purse : S := (.seq (.asg 1 false (.bin .mod (.var 0) (.lit (.int 2147483647))))
    (.seq (.asg 2 false (.lit (.int 1)))
    (.seq (.for (.one 3) .rng (.lit (.int 16)) .nix
    (.seq (.asg 1 false (.bin .mod (.bin .add (.bin .add (.bin .add (.bin .mul (.var 1) (.var 1)) (.bin .mul (.bin .mul (.lit (.int 48271)) (.var 3)) (.var 3))) (.var 3)) (.lit (.int 3))) (.lit (.int 2147483629))))
    (.seq (.asg 2 false (.bin .add (.bin .mul (.var 2) (.lit (.int 2147483587))) (.bin .mod (.bin .mul (.var 1) (.var 1)) (.lit (.int 2147483587)))))
    .skip)))
    (.seq (.ite (.bin .eq (.bin .mod (.var 0) (.lit (.int 2))) (.lit (.int 0)))
    (.seq (.ret (.lst (.cons (.bin .fdiv (.un .abs (.var 0)) (.lit (.int 2))) (.cons (.var 2) .nil))))
    .skip)
    .skip)
    (.seq (.ret (.lst (.cons (.lit (.int 0)) (.cons (.var 2) .nil))))
    .skip)))))
def f__law_purse : Fn := ⟨"_law_purse", ["_law_cell_here", "_law_number", "_law_found", "_law_k"], [.sh], b__law_purse⟩

def b__law_take : S := (.seq (.asg 2 false (.un .int (.bin .eq (.bin .idx (.own 0) (.lit (.int 0))) (.lit (.int 0)))))
    (.seq (.asg 3 false (.bin .mod (.bin .idx (.own 0) (.var 2)) (.var 1)))
    (.seq (.setI 0 (.var 2) (.bin .fdiv (.bin .idx (.own 0) (.var 2)) (.var 1)))
    (.seq (.ret (.var 3))
    .skip))))
def f__law_take : Fn := ⟨"_law_take", ["_law_purse_here", "_law_many", "_law_at", "_law_found"], [.mu, .sh], b__law_take⟩

def b__law_stream : S := (.seq (.asg 2 true (.call "_law_purse" (.cons (.var 0) .nil)))
    (.seq (.ret (.lc [("_law_k", 3)] (.one 3) .rng (.var 1) .nix (.lit (.bl true)) (.call "_law_take" (.cons (.mut 2) (.cons (.lit (.int 4800)) .nil)))))
    .skip))
def f__law_stream : Fn := ⟨"_law_stream", ["_law_cell_here", "_law_many", "_law_purse_here", "_law_k"], [.sh, .sh], b__law_stream⟩

def b__law_count_k02 : S := (.seq (.ite (.un (.isK .str) (.var 0))
    (.seq (.ret (.lit (.int 1)))
    .skip)
    .skip)
    (.seq (.ret (.bin .add (.lit (.int 1)) (.un .sum (.lc [("_law_part_here", 1)] (.one 1) .seq (.sl (.var 0) (.lit (.int 1)) .nix) .nix (.lit (.bl true)) (.call "_law_count" (.cons (.var 1) .nil))))))
    .skip))
def f__law_count_k02 : Fn := ⟨"_law_count", ["_law_term_here", "_law_part_here"], [.sh], b__law_count_k02⟩

def b__law_term : S := (.seq (.asg 4 false (.lst .nil))
    (.seq (.for (.one 5) .seq (.var 0) .nix
    (.seq (.asg 4 false (.call "_law_grown" (.cons (.var 4) (.cons (.var 5) (.cons (.var 1) (.cons (.var 2) (.cons (.var 3) .nil)))))))
    .skip))
    (.seq (.asg 6 false (.bin .idx (.bin .idx (.var 4) (.lit (.int 0))) (.lit (.int 0))))
    (.seq (.for (.one 7) .seq (.sl (.var 4) (.lit (.int 1)) .nix) .nix
    (.seq (.ite (.bin .ge (.call "_law_count" (.cons (.bin .idx (.var 7) (.lit (.int 0))) .nil)) (.call "_law_count" (.cons (.var 6) .nil)))
    (.seq (.asg 6 false (.bin .idx (.var 7) (.lit (.int 0))))
    .skip)
    .skip)
    .skip))
    (.seq (.ret (.var 6))
    .skip)))))
def f__law_term : Fn := ⟨"_law_term", ["_law_numbers", "_law_sorts_here", "_law_blanks_here", "_law_most", "_law_row", "_law_number", "_law_found", "_law_one"], [.sh, .sh, .sh, .sh], b__law_term⟩

def b__law_part : S := (.seq (.for (.one 2) .seq (.var 1) .nix
    (.seq (.asg 0 false (.bin .idx (.var 0) (.bin .add (.lit (.int 1)) (.var 2))))
    .skip))
    (.seq (.ret (.var 0))
    .skip))
def f__law_part : Fn := ⟨"_law_part", ["_law_term_here", "_law_place", "_law_k"], [.sh, .sh], b__law_part⟩

def b__law_places : S := (.seq (.asg 1 false (.lst (.cons (.tup .nil) .nil)))
    (.seq (.ite (.un (.isK .tup) (.var 0))
    (.seq (.for (.one 2) .rng (.bin .sub (.un .len (.var 0)) (.lit (.int 1))) .nix
    (.seq (.asg 1 false (.bin .add (.var 1) (.lc [("_law_place", 3)] (.one 3) .seq (.call "_law_places" (.cons (.bin .idx (.var 0) (.bin .add (.lit (.int 1)) (.var 2))) .nil)) .nix (.lit (.bl true)) (.bin .add (.tup (.cons (.var 2) .nil)) (.var 3)))))
    .skip))
    .skip)
    .skip)
    (.seq (.ret (.var 1))
    .skip)))
def f__law_places : Fn := ⟨"_law_places", ["_law_term_here", "_law_found", "_law_k", "_law_place"], [.sh], b__law_places⟩

def b__law_put : S := (.seq (.ite (.bin .eq (.var 1) (.tup .nil))
    (.seq (.ret (.var 2))
    .skip)
    .skip)
    (.seq (.asg 3 false (.bin .add (.lit (.int 1)) (.bin .idx (.var 1) (.lit (.int 0)))))
    (.seq (.ret (.bin .add (.bin .add (.sl (.var 0) .nix (.var 3)) (.tup (.cons (.call "_law_put" (.cons (.bin .idx (.var 0) (.var 3)) (.cons (.sl (.var 1) (.lit (.int 1)) .nix) (.cons (.var 2) .nil)))) .nil))) (.sl (.var 0) (.bin .add (.var 3) (.lit (.int 1))) .nix)))
    .skip)))
def f__law_put : Fn := ⟨"_law_put", ["_law_term_here", "_law_place", "_law_new", "_law_k"], [.sh, .sh, .sh], b__law_put⟩

def b_law_k02 : S := (.seq (.asg 1 false (.call "_law_sorts" (.cons (.call "_law_cell" (.cons (.var 0) (.cons (.lit (.int 0)) .nil))) .nil)))
    (.seq (.asg 2 false (.call "_law_blanks" (.cons (.call "_law_cell" (.cons (.var 0) (.cons (.lit (.int 1)) .nil))) .nil)))
    (.seq (.asg 3 false (.lc [("_law_cell_here", 10)] (.one 10) .seq (.bin .add (.lst (.cons (.lit (.int 3)) .nil)) (.sl (.var 0) (.lit (.int 3)) (.lit (.int 32)))) .nix (.lit (.bl true)) (.bin .mod (.bin .mul (.var 10) (.lit (.int 1000000007))) (.lit (.int 2147483647)))))
    (.seq (.asg 4 false (.call "_law_term" (.cons (.var 3) (.cons (.var 1) (.cons (.var 2) (.cons (.lit (.int 12)) .nil))))))
    (.seq (.asg 5 false (.call "_law_term" (.cons (.call "_law_stream" (.cons (.call "_law_cell" (.cons (.var 0) (.cons (.lit (.int 2)) .nil))) (.cons (.lit (.int 8)) .nil))) (.cons (.var 1) (.cons (.var 2) (.cons (.lit (.int 3)) .nil))))))
    (.seq (.asg 6 false (.call "_law_places" (.cons (.var 4) .nil)))
    (.seq (.for (.one 7) .seq (.var 6) .nix
    (.seq (.ite (.bin .ne (.call "part_at" (.cons (.var 4) (.cons (.var 7) .nil))) (.call "_law_part" (.cons (.var 4) (.cons (.var 7) .nil))))
    (.seq (.ret (.lit (.bl false)))
    .skip)
    .skip)
    (.seq (.asg 8 false (.call "put_at" (.cons (.var 4) (.cons (.var 7) (.cons (.var 5) .nil)))))
    (.seq (.ite (.or (.bin .ne (.var 8) (.call "_law_put" (.cons (.var 4) (.cons (.var 7) (.cons (.var 5) .nil))))) (.one (.bin .ne (.call "part_at" (.cons (.var 8) (.cons (.var 7) .nil))) (.var 5))))
    (.seq (.ret (.lit (.bl false)))
    .skip)
    .skip)
    (.seq (.ite (.bin .ne (.call "put_at" (.cons (.var 8) (.cons (.var 7) (.cons (.call "_law_part" (.cons (.var 4) (.cons (.var 7) .nil))) .nil)))) (.var 4))
    (.seq (.ret (.lit (.bl false)))
    .skip)
    .skip)
    (.seq (.asg 9 false (.bin .idx (.var 6) (.bin .mod (.call "_law_cell" (.cons (.var 0) (.cons (.lit (.int 2)) .nil))) (.un .len (.var 6)))))
    (.seq (.ite (.and (.bin .ne (.sl (.var 9) .nix (.un .len (.var 7))) (.var 7)) (.one (.bin .ne (.sl (.var 7) .nix (.un .len (.var 9))) (.var 9))))
    (.seq (.ite (.bin .ne (.call "part_at" (.cons (.var 8) (.cons (.var 9) .nil))) (.call "_law_part" (.cons (.var 4) (.cons (.var 9) .nil))))
    (.seq (.ret (.lit (.bl false)))
    .skip)
    .skip)
    .skip)
    .skip)
    .skip)))))))
    (.seq (.ret (.lit (.bl true)))
    .skip))))))))
def f_law_k02 : Fn := ⟨"law", ["_law_script", "_law_sorts_here", "_law_blanks_here", "_law_numbers", "_law_term_here", "_law_new", "_law_places_here", "_law_place", "_law_made", "_law_beside", "_law_cell_here"], [.sh], b_law_k02⟩

def b_blanks_of : S := (.seq (.ite (.call "is_blank" (.cons (.var 0) .nil))
    (.seq (.ret (.lst (.cons (.var 0) .nil)))
    .skip)
    .skip)
    (.seq (.asg 1 true (.lst .nil))
    (.seq (.for (.one 2) .seq (.call "inner" (.cons (.var 0) .nil)) .nix
    (.seq (.aug 1 (.lc [("blank", 3)] (.one 3) .seq (.call "blanks_of" (.cons (.var 2) .nil)) .nix (.bin .nin (.var 3) (.own 1)) (.var 3)))
    .skip))
    (.seq (.ret (.mv 1))
    .skip))))
def f_blanks_of : Fn := ⟨"blanks_of", ["term", "found", "part", "blank"], [.sh], b_blanks_of⟩

def b_signs_in : S := (.seq (.ite (.call "is_blank" (.cons (.var 0) .nil))
    (.seq (.ret (.lst .nil))
    .skip)
    .skip)
    (.seq (.asg 1 true (.lst (.cons (.bin .idx (.var 0) (.lit (.int 0))) .nil)))
    (.seq (.for (.one 2) .seq (.call "inner" (.cons (.var 0) .nil)) .nix
    (.seq (.aug 1 (.call "signs_in" (.cons (.var 2) .nil)))
    .skip))
    (.seq (.ret (.mv 1))
    .skip))))
def f_signs_in : Fn := ⟨"signs_in", ["term", "found", "part"], [.sh], b_signs_in⟩

def b_signs_of : S := (.seq (.asg 1 true (.lst .nil))
    (.seq (.for (.one 2) .seq (.var 0) .nix
    (.seq (.aug 1 (.call "signs_in" (.cons (.var 2) .nil)))
    .skip))
    (.seq (.ret (.un .sortSet (.own 1)))
    .skip)))
def f_signs_of : Fn := ⟨"signs_of", ["terms", "found", "term"], [.sh], b_signs_of⟩

def b__law_flat : S := (.seq (.ite (.un (.isK .str) (.var 0))
    (.seq (.ret (.lst (.cons (.var 0) .nil)))
    .skip)
    .skip)
    (.seq (.asg 1 false (.lst (.cons (.bin .idx (.var 0) (.lit (.int 0))) .nil)))
    (.seq (.for (.one 2) .seq (.sl (.var 0) (.lit (.int 1)) .nix) .nix
    (.seq (.asg 1 false (.bin .add (.var 1) (.call "_law_flat" (.cons (.var 2) .nil))))
    .skip))
    (.seq (.ret (.var 1))
    .skip))))
def f__law_flat : Fn := ⟨"_law_flat", ["_law_term", "_law_found", "_law_part"], [.sh], b__law_flat⟩

def b__law_good_k03 : S := (.seq (.asg 1 true (.lst .nil))
    (.seq (.for (.one 2) .seq (.call "_law_flat" (.cons (.var 0) .nil)) .nix
    (.seq (.ite (.and (.bin .inn (.var 2) (.lit (.str "ABCDEFGHIJKLMNOPQRSTUVWXYZ"))) (.one (.bin .nin (.var 2) (.own 1))))
    (.seq (.app 1 (.var 2))
    .skip)
    .skip)
    .skip))
    (.seq (.asg 3 false (.call "blanks_of" (.cons (.var 0) .nil)))
    (.seq (.ret (.and (.un (.isK .lst) (.var 3)) (.one (.bin .eq (.var 3) (.own 1)))))
    .skip))))
def f__law_good_k03 : Fn := ⟨"_law_good", ["_law_term", "_law_due", "_law_word", "_law_found"], [.sh], b__law_good_k03⟩

def b__law_signs : S := (.seq (.asg 1 false (.lst .nil))
    (.seq (.for (.one 2) .seq (.var 0) .nix
    (.seq (.asg 1 false (.bin .add (.var 1) (.lc [("_law_word", 3)] (.one 3) .seq (.call "_law_flat" (.cons (.var 2) .nil)) .nix (.bin .nin (.var 3) (.lit (.str "ABCDEFGHIJKLMNOPQRSTUVWXYZ"))) (.var 3))))
    .skip))
    (.seq (.ret (.un .sortSet (.var 1)))
    .skip)))
def f__law_signs : Fn := ⟨"_law_signs", ["_law_terms", "_law_found", "_law_term", "_law_word"], [.sh], b__law_signs⟩

def b_law_k03 : S := (.seq (.asg 1 false (.call "_law_sorts" (.cons (.call "_law_cell" (.cons (.var 0) (.cons (.lit (.int 0)) .nil))) .nil)))
    (.seq (.asg 2 false (.call "_law_blanks" (.cons (.call "_law_cell" (.cons (.var 0) (.cons (.lit (.int 1)) .nil))) .nil)))
    (.seq (.asg 3 false (.lst .nil))
    (.seq (.for (.one 4) .seq (.bin .add (.lst (.cons (.lit (.int 0)) .nil)) (.sl (.var 0) (.lit (.int 2)) (.lit (.int 41)))) .nix
    (.seq (.asg 3 false (.call "_law_grown" (.cons (.var 3) (.cons (.bin .mod (.bin .mul (.var 4) (.lit (.int 1000000007))) (.lit (.int 2147483647))) (.cons (.var 1) (.cons (.var 2) (.cons (.lit (.int 15)) .nil)))))))
    (.seq (.ite (.not (.call "_law_good" (.cons (.bin .idx (.bin .idx (.var 3) (.un .neg (.lit (.int 1)))) (.lit (.int 0))) .nil)))
    (.seq (.ret (.lit (.bl false)))
    .skip)
    .skip)
    .skip)))
    (.seq (.asg 5 false (.lc [("_law_one", 8)] (.one 8) .seq (.var 3) .nix (.lit (.bl true)) (.bin .idx (.var 8) (.lit (.int 0)))))
    (.seq (.asg 6 false (.un .list (.var 5)))
    (.seq (.asg 7 false (.call "signs_of" (.cons (.var 5) .nil)))
    (.seq (.ite (.or (.not (.un (.isK .lst) (.var 7))) (.or (.bin .ne (.var 7) (.call "_law_signs" (.cons (.var 5) .nil))) (.one (.bin .ne (.var 5) (.var 6)))))
    (.seq (.ret (.lit (.bl false)))
    .skip)
    .skip)
    (.seq (.ret (.and (.bin .eq (.call "signs_of" (.cons (.sl (.var 5) (.un .neg (.lit (.int 1))) .nix) .nil)) (.call "_law_signs" (.cons (.sl (.var 5) (.un .neg (.lit (.int 1))) .nix) .nil))) (.one (.bin .eq (.call "signs_of" (.cons (.lst .nil) .nil)) (.lst .nil)))))
    .skip)))))))))
def f_law_k03 : Fn := ⟨"law", ["_law_script", "_law_sorts_here", "_law_blanks_here", "_law_row", "_law_cell_here", "_law_terms", "_law_kept", "_law_found", "_law_one"], [.sh], b_law_k03⟩

def b__law_has : S := (.seq (.for (.one 2) .seq (.var 1) .nix
    (.seq (.ite (.or (.un (.isK .str) (.var 0)) (.or (.bin .lt (.var 2) (.lit (.int 0))) (.one (.bin .ge (.bin .add (.var 2) (.lit (.int 1))) (.un .len (.var 0))))))
    (.seq (.ret (.lit (.bl false)))
    .skip)
    .skip)
    (.seq (.asg 0 false (.bin .idx (.var 0) (.bin .add (.lit (.int 1)) (.var 2))))
    .skip)))
    (.seq (.ret (.lit (.bl true)))
    .skip))
def f__law_has : Fn := ⟨"_law_has", ["_law_term_here", "_law_place", "_law_k"], [.sh, .sh], b__law_has⟩

def b__law_spoiled : S := (.seq (.asg 3 false (.bin .mod (.var 2) (.bin .add (.un .len (.var 1)) (.lit (.int 1)))))
    (.seq (.asg 4 false (.call "_law_part" (.cons (.var 0) (.cons (.sl (.var 1) .nix (.var 3)) .nil))))
    (.seq (.asg 5 false (.lit (.int 0)))
    (.seq (.ite (.un (.isK .tup) (.var 4))
    (.seq (.asg 5 false (.bin .sub (.un .len (.var 4)) (.lit (.int 1))))
    .skip)
    .skip)
    (.seq (.asg 6 false (.bin .idx (.lst (.cons (.var 5) (.cons (.bin .add (.var 5) (.lit (.int 1))) (.cons (.un .neg (.lit (.int 1))) (.cons (.bin .sub (.un .neg (.lit (.int 1))) (.var 5)) (.cons (.bin .add (.bin .pow (.lit (.int 10)) (.lit (.int 59))) (.bin .mod (.var 2) (.bin .pow (.lit (.int 10)) (.lit (.int 9))))) (.cons (.bin .sub (.un .neg (.lit (.int 1))) (.bin .mod (.var 2) (.bin .pow (.lit (.int 10)) (.lit (.int 59))))) .nil))))))) (.bin .mod (.bin .fdiv (.var 2) (.lit (.int 16))) (.lit (.int 6)))))
    (.seq (.ite (.bin .eq (.bin .mod (.bin .fdiv (.var 2) (.lit (.int 8))) (.lit (.int 2))) (.lit (.int 0)))
    (.seq (.ret (.bin .add (.sl (.var 1) .nix (.var 3)) (.tup (.cons (.var 6) .nil))))
    .skip)
    .skip)
    (.seq (.ret (.bin .add (.bin .add (.sl (.var 1) .nix (.var 3)) (.tup (.cons (.var 6) .nil))) (.sl (.var 1) (.bin .add (.var 3) (.lit (.int 1))) .nix)))
    .skip)))))))
def f__law_spoiled : Fn := ⟨"_law_spoiled", ["_law_term_here", "_law_place", "_law_cell_here", "_law_at", "_law_part_here", "_law_many", "_law_odd"], [.sh, .sh, .sh], b__law_spoiled⟩

def b_law_k04 : S := (.seq (.asg 1 false (.call "_law_sorts" (.cons (.call "_law_cell" (.cons (.var 0) (.cons (.lit (.int 0)) .nil))) .nil)))
    (.seq (.asg 2 false (.call "_law_blanks" (.cons (.call "_law_cell" (.cons (.var 0) (.cons (.lit (.int 1)) .nil))) .nil)))
    (.seq (.asg 3 false (.lc [("_law_cell_here", 6)] (.one 6) .seq (.bin .add (.lst (.cons (.lit (.int 3)) .nil)) (.sl (.var 0) (.lit (.int 2)) (.lit (.int 31)))) .nix (.lit (.bl true)) (.bin .mod (.bin .mul (.var 6) (.lit (.int 1000000007))) (.lit (.int 2147483647)))))
    (.seq (.asg 4 false (.call "_law_term" (.cons (.var 3) (.cons (.var 1) (.cons (.var 2) (.cons (.lit (.int 12)) .nil))))))
    (.seq (.asg 5 false (.call "_law_places" (.cons (.var 4) .nil)))
    (.seq (.for (.one 6) .seq (.bin .add (.lst (.cons (.lit (.int 3)) (.cons (.lit (.int 40)) .nil))) (.sl (.var 0) (.lit (.int 1)) (.lit (.int 20)))) .nix
    (.seq (.asg 7 false (.bin .idx (.var 5) (.bin .mod (.bin .fdiv (.var 6) (.lit (.int 3))) (.un .len (.var 5)))))
    (.seq (.ite (.bin .gt (.bin .mod (.var 6) (.lit (.int 3))) (.lit (.int 0)))
    (.seq (.asg 7 false (.call "_law_spoiled" (.cons (.var 4) (.cons (.var 7) (.cons (.bin .fdiv (.var 6) (.lit (.int 3))) .nil)))))
    .skip)
    .skip)
    (.seq (.for (.one 8) .seq (.lst (.cons (.bin .mod (.var 6) (.lit (.int 2))) (.cons (.bin .sub (.lit (.int 1)) (.bin .mod (.var 6) (.lit (.int 2)))) .nil))) .nix
    (.seq (.asg 9 false (.call "_law_caught" (.cons (.var 8) (.cons (.var 4) (.cons (.var 7) .nil)))))
    (.seq (.ite (.call "_law_has" (.cons (.var 4) (.cons (.var 7) .nil)))
    (.seq (.ite (.or (.un .notNone (.var 9)) (.one (.bin .ne (.call "part_at" (.cons (.var 4) (.cons (.var 7) .nil))) (.call "_law_part" (.cons (.var 4) (.cons (.var 7) .nil))))))
    (.seq (.ret (.lit (.bl false)))
    .skip)
    .skip)
    .skip)
    (.seq (.ite (.not (.call "_law_refused" (.cons (.var 9) (.cons (.var 7) .nil))))
    (.seq (.ret (.lit (.bl false)))
    .skip)
    .skip)
    .skip))
    .skip)))
    .skip))))
    (.seq (.ret (.call "_law_made" (.cons (.bin .idx (.var 5) (.un .neg (.lit (.int 1)))) (.cons (.var 4) .nil))))
    .skip)))))))
def f_law_k04 : Fn := ⟨"law", ["_law_script", "_law_sorts_here", "_law_blanks_here", "_law_numbers", "_law_term_here", "_law_places_here", "_law_cell_here", "_law_place", "_law_way", "_law_e"], [.sh], b_law_k04⟩

def b_filled : S := (.seq (.ite (.call "is_blank" (.cons (.var 0) .nil))
    (.seq (.ret (.get (.var 1) (.var 0) (.var 0)))
    .skip)
    .skip)
    (.seq (.ret (.bin .add (.tup (.cons (.bin .idx (.var 0) (.lit (.int 0))) .nil)) (.un .tuple (.lc [("part", 2)] (.one 2) .seq (.call "inner" (.cons (.var 0) .nil)) .nix (.lit (.bl true)) (.call "filled" (.cons (.var 2) (.cons (.var 1) .nil)))))))
    .skip))
def f_filled : Fn := ⟨"filled", ["term", "filling", "part"], [.sh, .sh], b_filled⟩

def b__law_count_k11 : S := (.seq (.ite (.un (.isK .str) (.var 0))
    (.seq (.ret (.lit (.int 1)))
    .skip)
    .skip)
    (.seq (.ret (.bin .add (.lit (.int 1)) (.un .sum (.lc [("_law_part", 1)] (.one 1) .seq (.sl (.var 0) (.lit (.int 1)) .nix) .nix (.lit (.bl true)) (.call "_law_count" (.cons (.var 1) .nil))))))
    .skip))
def f__law_count_k11 : Fn := ⟨"_law_count", ["_law_term_here", "_law_part"], [.sh], b__law_count_k11⟩

def b__law_filled : S := (.seq (.ite (.un (.isK .str) (.var 0))
    (.seq (.ret (.get (.var 1) (.var 0) (.var 0)))
    .skip)
    .skip)
    (.seq (.ret (.bin .add (.sl (.var 0) .nix (.lit (.int 1))) (.un .tuple (.lc [("_law_part", 2)] (.one 2) .seq (.sl (.var 0) (.lit (.int 1)) .nix) .nix (.lit (.bl true)) (.call "_law_filled" (.cons (.var 2) (.cons (.var 1) .nil)))))))
    .skip))
def f__law_filled : Fn := ⟨"_law_filled", ["_law_term_here", "_law_filling", "_law_part"], [.sh, .sh], b__law_filled⟩

def b_fits_into : S := (.seq (.ite (.call "is_blank" (.cons (.var 0) .nil))
    (.seq (.ret (.bin .eq (.setdef 2 (.var 0) (.var 1)) (.var 1)))
    .skip)
    .skip)
    (.seq (.ite (.or (.call "is_blank" (.cons (.var 1) .nil)) (.or (.bin .ne (.bin .idx (.var 0) (.lit (.int 0))) (.bin .idx (.var 1) (.lit (.int 0)))) (.one (.bin .ne (.un .len (.var 0)) (.un .len (.var 1))))))
    (.seq (.ret (.lit (.bl false)))
    .skip)
    .skip)
    (.seq (.for (.many [3, 4]) .zip (.call "inner" (.cons (.var 0) .nil)) (.call "inner" (.cons (.var 1) .nil))
    (.seq (.ite (.not (.call "fits_into" (.cons (.var 3) (.cons (.var 4) (.cons (.mut 2) .nil)))))
    (.seq (.ret (.lit (.bl false)))
    .skip)
    .skip)
    .skip))
    (.seq (.ret (.lit (.bl true)))
    .skip))))
def f_fits_into : Fn := ⟨"fits_into", ["pattern", "term", "filling", "one", "other"], [.sh, .sh, .mu], b_fits_into⟩

def b_fits : S := (.seq (.asg 2 true .dic0)
    (.seq (.ite (.call "fits_into" (.cons (.var 0) (.cons (.var 1) (.cons (.mut 2) .nil))))
    (.seq (.ret (.mv 2))
    .skip)
    .skip)
    (.seq (.ret (.lit .non))
    .skip)))
def f_fits : Fn := ⟨"fits", ["pattern", "term", "filling"], [.sh, .sh], b_fits⟩

def b__law_filled_k12 : S := (.seq (.ite (.un (.isK .str) (.var 0))
    (.seq (.ret (.get (.var 1) (.var 0) (.var 0)))
    .skip)
    .skip)
    (.seq (.ret (.bin .add (.sl (.var 0) .nix (.lit (.int 1))) (.un .tuple (.lc [("_law_part_here", 2)] (.one 2) .seq (.sl (.var 0) (.lit (.int 1)) .nix) .nix (.lit (.bl true)) (.call "_law_filled" (.cons (.var 2) (.cons (.var 1) .nil)))))))
    .skip))
def f__law_filled_k12 : Fn := ⟨"_law_filled", ["_law_term_here", "_law_filling", "_law_part_here"], [.sh, .sh], b__law_filled_k12⟩

def b__law_fits : S := (.seq (.ite (.un (.isK .str) (.var 0))
    (.seq (.ite (.bin .nin (.var 0) (.own 2))
    (.seq (.setI 2 (.var 0) (.var 1))
    .skip)
    .skip)
    (.seq (.ret (.bin .eq (.bin .idx (.own 2) (.var 0)) (.var 1)))
    .skip))
    .skip)
    (.seq (.ite (.or (.un (.isK .str) (.var 1)) (.or (.bin .ne (.bin .idx (.var 0) (.lit (.int 0))) (.bin .idx (.var 1) (.lit (.int 0)))) (.one (.bin .ne (.un .len (.var 0)) (.un .len (.var 1))))))
    (.seq (.ret (.lit (.bl false)))
    .skip)
    .skip)
    (.seq (.for (.one 3) .rng2 (.lit (.int 1)) (.un .len (.var 1))
    (.seq (.ite (.not (.call "_law_fits" (.cons (.bin .idx (.var 0) (.var 3)) (.cons (.bin .idx (.var 1) (.var 3)) (.cons (.mut 2) .nil)))))
    (.seq (.ret (.lit (.bl false)))
    .skip)
    .skip)
    .skip))
    (.seq (.ret (.lit (.bl true)))
    .skip))))
def f__law_fits : Fn := ⟨"_law_fits", ["_law_pattern", "_law_term_here", "_law_filling", "_law_k"], [.sh, .sh, .mu], b__law_fits⟩

def b__law_blanks_of : S := (.seq (.ite (.un (.isK .str) (.var 0))
    (.seq (.ret (.lst (.cons (.var 0) .nil)))
    .skip)
    .skip)
    (.seq (.asg 1 false (.lst .nil))
    (.seq (.for (.one 2) .seq (.sl (.var 0) (.lit (.int 1)) .nix) .nix
    (.seq (.asg 1 false (.bin .add (.var 1) (.lc [("_law_blank", 3)] (.one 3) .seq (.call "_law_blanks_of" (.cons (.var 2) .nil)) .nix (.bin .nin (.var 3) (.var 1)) (.var 3))))
    .skip))
    (.seq (.ret (.var 1))
    .skip))))
def f__law_blanks_of : Fn := ⟨"_law_blanks_of", ["_law_term_here", "_law_found", "_law_part_here", "_law_blank"], [.sh], b__law_blanks_of⟩

def b__law_good_k12 : S := (.seq (.asg 2 true .dic0)
    (.seq (.asg 3 false (.call "fits" (.cons (.var 0) (.cons (.var 1) .nil))))
    (.seq (.ite (.not (.call "_law_fits" (.cons (.var 0) (.cons (.var 1) (.cons (.mut 2) .nil)))))
    (.seq (.ret (.un .isNone (.var 3)))
    .skip)
    .skip)
    (.seq (.ret (.and (.un (.isK .dic) (.var 3)) (.one (.bin .eq (.var 3) (.own 2)))))
    .skip))))
def f__law_good_k12 : Fn := ⟨"_law_good", ["_law_pattern", "_law_term_here", "_law_due", "_law_found"], [.sh, .sh], b__law_good_k12⟩

def b__law_changed : S := (.seq (.asg 3 false (.call "_law_places" (.cons (.var 0) .nil)))
    (.seq (.ret (.call "_law_put" (.cons (.var 0) (.cons (.bin .idx (.var 3) (.bin .mod (.var 1) (.un .len (.var 3)))) (.cons (.var 2) .nil)))))
    .skip))
def f__law_changed : Fn := ⟨"_law_changed", ["_law_term_here", "_law_number", "_law_new", "_law_places_here"], [.sh, .sh, .sh], b__law_changed⟩

def b_law_k12 : S := (.seq (.asg 1 false (.call "_law_sorts" (.cons (.call "_law_cell" (.cons (.var 0) (.cons (.lit (.int 0)) .nil))) .nil)))
    (.seq (.asg 2 false (.call "_law_blanks" (.cons (.call "_law_cell" (.cons (.var 0) (.cons (.lit (.int 1)) .nil))) .nil)))
    (.seq (.asg 3 false (.call "_law_term" (.cons (.call "_law_stream" (.cons (.call "_law_cell" (.cons (.var 0) (.cons (.lit (.int 2)) .nil))) (.cons (.lit (.int 12)) .nil))) (.cons (.var 1) (.cons (.var 2) (.cons (.lit (.int 6)) .nil))))))
    (.seq (.asg 4 true .dic0)
    (.seq (.for (.one 5) .rng (.un .len (.var 2)) .nix
    (.seq (.setI 4 (.bin .idx (.var 2) (.var 5)) (.call "_law_term" (.cons (.call "_law_stream" (.cons (.call "_law_cell" (.cons (.var 0) (.cons (.bin .add (.lit (.int 3)) (.var 5)) .nil))) (.cons (.lit (.int 4)) .nil))) (.cons (.var 1) (.cons (.var 2) (.cons (.lit (.int 4)) .nil))))))
    .skip))
    (.seq (.asg 6 false (.call "_law_filled" (.cons (.var 3) (.cons (.fz 4) .nil))))
    (.seq (.asg 7 true .dic0)
    (.seq (.for (.one 8) .seq (.call "_law_blanks_of" (.cons (.var 3) .nil)) .nix
    (.seq (.setI 7 (.var 8) (.bin .idx (.own 4) (.var 8)))
    .skip))
    (.seq (.ite (.or (.bin .ne (.call "fits" (.cons (.var 3) (.cons (.var 6) .nil))) (.own 7)) (.one (.not (.call "_law_good" (.cons (.var 3) (.cons (.var 3) .nil))))))
    (.seq (.ret (.lit (.bl false)))
    .skip)
    .skip)
    (.seq (.asg 9 false (.bin .add (.bin .add (.lst (.cons (.lit (.int 0)) (.cons (.lit (.int 1)) (.cons (.lit (.int 2)) (.cons (.lit (.int 3)) (.cons (.lit (.int 5)) .nil)))))) (.sl (.var 0) (.lit (.int 2)) (.lit (.int 20)))) (.lst (.cons (.lit (.int 6)) (.cons (.lit (.int 7)) .nil)))))
    (.seq (.for (.one 5) .rng (.bin .sub (.un .len (.var 9)) (.lit (.int 2))) .nix
    (.seq (.asg 10 false (.bin .idx (.var 9) (.var 5)))
    (.seq (.asg 11 false (.bin .mod (.bin .mul (.bin .fdiv (.var 10) (.lit (.int 4))) (.lit (.int 1000000007))) (.lit (.int 2147483647))))
    (.seq (.asg 12 false (.call "_law_term" (.cons (.call "_law_stream" (.cons (.bin .idx (.var 9) (.bin .add (.var 5) (.lit (.int 1)))) (.cons (.lit (.int 12)) .nil))) (.cons (.var 1) (.cons (.var 2) (.cons (.lit (.int 6)) .nil))))))
    (.seq (.asg 8 false (.bin .idx (.var 2) (.bin .mod (.var 11) (.un .len (.var 2)))))
    (.seq (.asg 13 false (.call "_law_term" (.cons (.call "_law_stream" (.cons (.bin .idx (.var 9) (.bin .add (.var 5) (.lit (.int 2)))) (.cons (.lit (.int 4)) .nil))) (.cons (.var 1) (.cons (.var 2) (.cons (.lit (.int 3)) .nil))))))
    (.seq (.asg 14 false (.bin .idx (.lst (.cons (.tup (.cons (.bin .idx (.bin .idx (.var 1) (.lit (.int 0))) (.lit (.int 0))) .nil)) (.cons (.var 8) (.cons (.var 13) .nil)))) (.bin .mod (.bin .fdiv (.var 11) (.lit (.int 4))) (.lit (.int 3)))))
    (.seq (.ite (.and (.bin .lt (.bin .mod (.var 10) (.lit (.int 4))) (.lit (.int 2))) (.one (.not (.call "_law_good" (.cons (.var 3) (.cons (.call "_law_changed" (.cons (.var 6) (.cons (.bin .fdiv (.var 11) (.lit (.int 12))) (.cons (.var 14) .nil)))) .nil))))))
    (.seq (.ret (.lit (.bl false)))
    .skip)
    .skip)
    (.seq (.ite (.and (.bin .eq (.bin .mod (.var 10) (.lit (.int 4))) (.lit (.int 2))) (.one (.not (.call "_law_good" (.cons (.call "_law_changed" (.cons (.var 3) (.cons (.bin .fdiv (.var 11) (.lit (.int 12))) (.cons (.var 8) .nil)))) (.cons (.var 6) .nil))))))
    (.seq (.ret (.lit (.bl false)))
    .skip)
    .skip)
    (.seq (.ite (.or (.not (.call "_law_good" (.cons (.var 3) (.cons (.var 12) .nil)))) (.one (.not (.call "_law_good" (.cons (.var 12) (.cons (.var 6) .nil))))))
    (.seq (.ret (.lit (.bl false)))
    .skip)
    .skip)
    .skip))))))))))
    (.seq (.ret (.lit (.bl true)))
    .skip))))))))))))
def f_law_k12 : Fn := ⟨"law", ["_law_script", "_law_sorts_here", "_law_blanks_here", "_law_pattern", "_law_filling", "_law_k", "_law_term_here", "_law_told", "_law_blank", "_law_cells", "_law_cell_here", "_law_number", "_law_other", "_law_small", "_law_new"], [.sh], b_law_k12⟩

def b_bound : S := (.seq (.asg 3 true .dic0)
    (.seq (.for (.many [4, 5]) .items (.var 0) .nix
    (.seq (.setI 3 (.var 4) (.call "filled" (.cons (.var 5) (.cons (.dic1 (.var 1) (.var 2)) .nil))))
    .skip))
    (.seq (.setI 3 (.var 1) (.var 2))
    (.seq (.ret (.mv 3))
    .skip))))
def f_bound : Fn := ⟨"bound", ["filling", "blank", "term", "found", "key", "value"], [.sh, .sh, .sh], b_bound⟩

def b_made_alike : S := (.seq (.asg 2 false .dic0)
    (.seq (.asg 3 true (.lst (.cons (.tup (.cons (.var 0) (.cons (.var 1) .nil))) .nil)))
    (.seq (.wh 1000 (.bin .ne (.own 3) (.lst .nil))
    (.seq (.asgT [4, 5] (.pop 3))
    (.seq (.asg 4 false (.call "filled" (.cons (.var 4) (.cons (.var 2) .nil))))
    (.seq (.asg 5 false (.call "filled" (.cons (.var 5) (.cons (.var 2) .nil))))
    (.seq (.ite (.and (.call "is_blank" (.cons (.var 5) .nil)) (.one (.not (.call "is_blank" (.cons (.var 4) .nil)))))
    (.seq (.asgP 4 5 (.var 5) (.var 4))
    .skip)
    .skip)
    (.seq (.ite (.and (.call "is_blank" (.cons (.var 4) .nil)) (.one (.bin .ne (.var 4) (.var 5))))
    (.seq (.ite (.bin .inn (.var 4) (.call "blanks_of" (.cons (.var 5) .nil)))
    (.seq (.ret (.lit .non))
    .skip)
    .skip)
    (.seq (.asg 2 false (.call "bound" (.cons (.var 2) (.cons (.var 4) (.cons (.var 5) .nil)))))
    .skip))
    (.seq (.ite (.not (.call "is_blank" (.cons (.var 4) .nil)))
    (.seq (.ite (.or (.bin .ne (.bin .idx (.var 4) (.lit (.int 0))) (.bin .idx (.var 5) (.lit (.int 0)))) (.one (.bin .ne (.un .len (.var 4)) (.un .len (.var 5)))))
    (.seq (.ret (.lit .non))
    .skip)
    .skip)
    (.seq (.aug 3 (.lc [("part", 6), ("its", 7)] (.many [6, 7]) .zip (.call "inner" (.cons (.var 4) .nil)) (.call "inner" (.cons (.var 5) .nil)) (.lit (.bl true)) (.tup (.cons (.var 6) (.cons (.var 7) .nil)))))
    .skip))
    .skip)
    .skip))
    .skip))))))
    (.seq (.ret (.var 2))
    .skip))))
def f_made_alike : Fn := ⟨"made_alike", ["one", "other", "filling", "left", "here", "there", "part", "its"], [.sh, .sh], b_made_alike⟩

def b__law_walks : S := (.seq (.asg 3 false (.bin .add (.call "_law_blanks_of" (.cons (.var 0) .nil)) (.call "_law_blanks_of" (.cons (.var 1) .nil))))
    (.seq (.ite (.or (.not (.un (.isK .dic) (.var 2))) (.one (.bin .ne (.call "_law_filled" (.cons (.var 0) (.cons (.var 2) .nil))) (.call "_law_filled" (.cons (.var 1) (.cons (.var 2) .nil))))))
    (.seq (.ret (.lit (.bl false)))
    .skip)
    .skip)
    (.seq (.for (.one 4) .seq (.var 2) .nix
    (.seq (.ite (.bin .nin (.var 4) (.var 3))
    (.seq (.ret (.lit (.bl false)))
    .skip)
    .skip)
    (.seq (.for (.one 5) .seq (.call "_law_blanks_of" (.cons (.bin .idx (.var 2) (.var 4)) .nil)) .nix
    (.seq (.ite (.or (.bin .nin (.var 5) (.var 3)) (.one (.bin .inn (.var 5) (.var 2))))
    (.seq (.ret (.lit (.bl false)))
    .skip)
    .skip)
    .skip))
    .skip)))
    (.seq (.ret (.lit (.bl true)))
    .skip))))
def f__law_walks : Fn := ⟨"_law_walks", ["_law_one", "_law_other", "_law_found", "_law_blanks_here", "_law_blank", "_law_its"], [.sh, .sh, .sh], b__law_walks⟩

def b__law_second : S := (.seq (.asg 5 false (.call "_law_term" (.cons (.call "_law_stream" (.cons (.var 1) (.cons (.lit (.int 10)) .nil))) (.cons (.var 3) (.cons (.var 4) (.cons (.lit (.int 6)) .nil))))))
    (.seq (.asg 6 false (.call "_law_places" (.cons (.var 0) .nil)))
    (.seq (.asg 7 false (.bin .idx (.var 6) (.bin .mod (.bin .fdiv (.var 2) (.lit (.int 7))) (.un .len (.var 6)))))
    (.seq (.asg 8 false (.bin .idx (.var 4) (.bin .mod (.bin .fdiv (.var 2) (.lit (.int 1001))) (.un .len (.var 4)))))
    (.seq (.ite (.bin .eq (.bin .mod (.var 2) (.lit (.int 4))) (.lit (.int 1)))
    (.seq (.ret (.call "_law_filled" (.cons (.var 0) (.cons (.dic1 (.var 8) (.call "_law_term" (.cons (.call "_law_stream" (.cons (.var 1) (.cons (.lit (.int 2)) .nil))) (.cons (.var 3) (.cons (.var 4) (.cons (.lit (.int 4)) .nil)))))) .nil))))
    .skip)
    .skip)
    (.seq (.ite (.bin .eq (.bin .mod (.var 2) (.lit (.int 4))) (.lit (.int 2)))
    (.seq (.ret (.call "_law_put" (.cons (.var 0) (.cons (.var 7) (.cons (.var 8) .nil)))))
    .skip)
    .skip)
    (.seq (.ite (.bin .eq (.bin .mod (.var 2) (.lit (.int 4))) (.lit (.int 3)))
    (.seq (.ret (.call "_law_put" (.cons (.var 0) (.cons (.var 7) (.cons (.bin .add (.tup (.cons (.bin .idx (.bin .idx (.var 3) (.un .neg (.lit (.int 1)))) (.lit (.int 0))) .nil)) (.bin .mul (.tup (.cons (.var 8) .nil)) (.bin .idx (.bin .idx (.var 3) (.un .neg (.lit (.int 1)))) (.lit (.int 1))))) .nil)))))
    .skip)
    .skip)
    (.seq (.ret (.var 5))
    .skip))))))))
def f__law_second : Fn := ⟨"_law_second", ["_law_one", "_law_cell_here", "_law_number", "_law_sorts_here", "_law_blanks_here", "_law_other", "_law_places_here", "_law_place", "_law_blank"], [.sh, .sh, .sh, .sh, .sh], b__law_second⟩

def b__law_good_k13 : S := (.seq (.asg 2 false (.call "made_alike" (.cons (.var 0) (.cons (.var 1) .nil))))
    (.seq (.asg 3 false (.call "made_alike" (.cons (.var 1) (.cons (.var 0) .nil))))
    (.seq (.ite (.or (.un .isNone (.var 2)) (.one (.un .isNone (.var 3))))
    (.seq (.ret (.and (.un .isNone (.var 2)) (.one (.un .isNone (.var 3)))))
    .skip)
    .skip)
    (.seq (.ite (.bin .ne (.call "made_alike" (.cons (.var 0) (.cons (.var 1) .nil))) (.var 2))
    (.seq (.ret (.lit (.bl false)))
    .skip)
    .skip)
    (.seq (.ret (.and (.call "_law_walks" (.cons (.var 0) (.cons (.var 1) (.cons (.var 2) .nil)))) (.one (.call "_law_walks" (.cons (.var 1) (.cons (.var 0) (.cons (.var 3) .nil)))))))
    .skip)))))
def f__law_good_k13 : Fn := ⟨"_law_good", ["_law_one", "_law_other", "_law_found", "_law_again"], [.sh, .sh], b__law_good_k13⟩

def b_law_k13 : S := (.seq (.asg 1 false (.call "_law_sorts" (.cons (.call "_law_cell" (.cons (.var 0) (.cons (.lit (.int 0)) .nil))) .nil)))
    (.seq (.asg 2 false (.call "_law_blanks" (.cons (.call "_law_cell" (.cons (.var 0) (.cons (.lit (.int 1)) .nil))) .nil)))
    (.seq (.asg 3 false (.bin .idx (.lc [("_law_letter", 9)] (.one 9) .chars (.lit (.str "QJXZK")) .nix (.bin .nin (.var 9) (.var 2)) (.var 9)) (.lit (.int 0))))
    (.seq (.asg 4 false (.bin .add (.bin .add (.lst (.cons (.lit (.int 1)) (.cons (.lit (.int 3)) (.cons (.lit (.int 5)) .nil)))) (.sl (.var 0) .nix (.lit (.int 20)))) (.lst (.cons (.lit (.int 7)) (.cons (.lit (.int 9)) .nil)))))
    (.seq (.for (.one 5) .rng (.bin .sub (.un .len (.var 4)) (.lit (.int 2))) .nix
    (.seq (.asg 6 false (.bin .mod (.bin .mul (.bin .idx (.var 4) (.bin .add (.var 5) (.lit (.int 2)))) (.lit (.int 1000000007))) (.lit (.int 2147483647))))
    (.seq (.asg 7 false (.call "_law_term" (.cons (.call "_law_stream" (.cons (.bin .idx (.var 4) (.var 5)) (.cons (.lit (.int 6)) .nil))) (.cons (.var 1) (.cons (.var 2) (.cons (.lit (.int 6)) .nil))))))
    (.seq (.asg 8 false (.call "_law_second" (.cons (.var 7) (.cons (.bin .idx (.var 4) (.bin .add (.var 5) (.lit (.int 1)))) (.cons (.var 6) (.cons (.var 1) (.cons (.var 2) .nil)))))))
    (.seq (.ite (.or (.not (.call "_law_good" (.cons (.var 7) (.cons (.var 8) .nil)))) (.one (.not (.call "_law_good" (.cons (.var 3) (.cons (.var 8) .nil))))))
    (.seq (.ret (.lit (.bl false)))
    .skip)
    .skip)
    (.seq (.ite (.or (.un .isNone (.call "made_alike" (.cons (.var 7) (.cons (.var 7) .nil)))) (.one (.un .isNone (.call "made_alike" (.cons (.var 3) (.cons (.var 8) .nil))))))
    (.seq (.ret (.lit (.bl false)))
    .skip)
    .skip)
    .skip))))))
    (.seq (.ret (.lit (.bl true)))
    .skip))))))
def f_law_k13 : Fn := ⟨"law", ["_law_script", "_law_sorts_here", "_law_blanks_here", "_law_spare", "_law_cells", "_law_k", "_law_number", "_law_one", "_law_other", "_law_letter"], [.sh], b_law_k13⟩

def b__law_grown_k14 : S := (.seq (.asgT [7, 8] (.bin .idx (.var 2) (.bin .mod (.var 1) (.un .len (.var 2)))))
    (.seq (.asg 1 false (.bin .fdiv (.var 1) (.lit (.int 20))))
    (.seq (.asg 5 false (.sl (.var 0) (.bin .sub (.un .len (.var 0)) (.var 8)) .nix))
    (.seq (.asg 6 false (.un .max0 (.lc [("_law_one", 9)] (.one 9) .seq (.var 5) .nix (.lit (.bl true)) (.bin .idx (.var 9) (.lit (.int 1))))))
    (.seq (.ite (.and (.bin .gt (.var 8) (.lit (.int 0))) (.and (.bin .le (.var 8) (.un .len (.var 0))) (.and (.bin .lt (.var 6) (.var 4)) (.one (.bin .gt (.bin .mod (.var 1) (.lit (.int 4))) (.lit (.int 0)))))))
    (.seq (.ret (.bin .add (.sl (.var 0) .nix (.bin .sub (.un .len (.var 0)) (.var 8))) (.lst (.cons (.lst (.cons (.bin .add (.tup (.cons (.var 7) .nil)) (.un .tuple (.lc [("_law_one", 9)] (.one 9) .seq (.var 5) .nix (.lit (.bl true)) (.bin .idx (.var 9) (.lit (.int 0)))))) (.cons (.bin .add (.var 6) (.lit (.int 1))) .nil))) .nil))))
    .skip)
    .skip)
    (.seq (.ite (.or (.bin .eq (.var 3) (.lst .nil)) (.one (.bin .eq (.bin .mod (.bin .fdiv (.var 1) (.lit (.int 4))) (.lit (.int 3))) (.lit (.int 0)))))
    (.seq (.ret (.bin .add (.var 0) (.lst (.cons (.lst (.cons (.tup (.cons (.bin .idx (.bin .idx (.var 2) (.lit (.int 0))) (.lit (.int 0))) .nil)) (.cons (.lit (.int 1)) .nil))) .nil))))
    .skip)
    .skip)
    (.seq (.ret (.bin .add (.var 0) (.lst (.cons (.lst (.cons (.bin .idx (.var 3) (.bin .mod (.bin .fdiv (.var 1) (.lit (.int 12))) (.un .len (.var 3)))) (.cons (.lit (.int 1)) .nil))) .nil))))
    .skip)))))))
def f__law_grown_k14 : Fn := ⟨"_law_grown", ["_law_row", "_law_number", "_law_sorts_here", "_law_blanks", "_law_most", "_law_last", "_law_nest", "_law_word", "_law_many", "_law_one"], [.sh, .sh, .sh, .sh, .sh], b__law_grown_k14⟩

def b__law_term_k14 : S := (.seq (.asg 4 false (.lst .nil))
    (.seq (.for (.one 5) .seq (.var 0) .nix
    (.seq (.asg 4 false (.call "_law_grown" (.cons (.var 4) (.cons (.var 5) (.cons (.var 1) (.cons (.var 2) (.cons (.var 3) .nil)))))))
    .skip))
    (.seq (.asg 6 false (.bin .idx (.bin .idx (.var 4) (.lit (.int 0))) (.lit (.int 0))))
    (.seq (.for (.one 7) .seq (.sl (.var 4) (.lit (.int 1)) .nix) .nix
    (.seq (.ite (.bin .ge (.call "_law_count" (.cons (.bin .idx (.var 7) (.lit (.int 0))) .nil)) (.call "_law_count" (.cons (.var 6) .nil)))
    (.seq (.asg 6 false (.bin .idx (.var 7) (.lit (.int 0))))
    .skip)
    .skip)
    .skip))
    (.seq (.ret (.var 6))
    .skip)))))
def f__law_term_k14 : Fn := ⟨"_law_term", ["_law_numbers", "_law_sorts_here", "_law_blanks", "_law_most", "_law_row", "_law_number", "_law_found", "_law_one"], [.sh, .sh, .sh, .sh], b__law_term_k14⟩

def b__law_part_or : S := (.seq (.for (.one 2) .seq (.var 1) .nix
    (.seq (.ite (.or (.un (.isK .str) (.var 0)) (.one (.bin .ge (.bin .add (.var 2) (.lit (.int 1))) (.un .len (.var 0)))))
    (.seq (.ret (.lit .non))
    .skip)
    .skip)
    (.seq (.asg 0 false (.bin .idx (.var 0) (.bin .add (.lit (.int 1)) (.var 2))))
    .skip)))
    (.seq (.ret (.var 0))
    .skip))
def f__law_part_or : Fn := ⟨"_law_part_or", ["_law_term_here", "_law_place", "_law_k"], [.sh, .sh], b__law_part_or⟩

def b__law_walks_k14 : S := (.seq (.asg 3 false (.bin .add (.call "_law_blanks_of" (.cons (.var 0) .nil)) (.call "_law_blanks_of" (.cons (.var 1) .nil))))
    (.seq (.ite (.or (.not (.un (.isK .dic) (.var 2))) (.one (.bin .ne (.call "_law_filled" (.cons (.var 0) (.cons (.var 2) .nil))) (.call "_law_filled" (.cons (.var 1) (.cons (.var 2) .nil))))))
    (.seq (.ret (.lit (.bl false)))
    .skip)
    .skip)
    (.seq (.for (.one 4) .seq (.var 2) .nix
    (.seq (.ite (.bin .nin (.var 4) (.var 3))
    (.seq (.ret (.lit (.bl false)))
    .skip)
    .skip)
    (.seq (.for (.one 5) .seq (.call "_law_blanks_of" (.cons (.bin .idx (.var 2) (.var 4)) .nil)) .nix
    (.seq (.ite (.or (.bin .nin (.var 5) (.var 3)) (.one (.bin .inn (.var 5) (.var 2))))
    (.seq (.ret (.lit (.bl false)))
    .skip)
    .skip)
    .skip))
    .skip)))
    (.seq (.ret (.lit (.bl true)))
    .skip))))
def f__law_walks_k14 : Fn := ⟨"_law_walks", ["_law_one", "_law_other", "_law_found", "_law_blanks", "_law_blank", "_law_its"], [.sh, .sh, .sh], b__law_walks_k14⟩

def b__law_cut : S := (.seq (.asg 4 false (.call "_law_places" (.cons (.var 0) .nil)))
    (.seq (.asg 5 false (.var 0))
    (.seq (.for (.one 6) .seq (.var 1) .nix
    (.seq (.asg 7 false (.bin .idx (.var 4) (.bin .mod (.var 6) (.un .len (.var 4)))))
    (.seq (.asg 8 false (.call "_law_part_or" (.cons (.var 5) (.cons (.var 7) .nil))))
    (.seq (.asg 9 false (.bin .idx (.var 2) (.bin .mod (.bin .fdiv (.var 6) (.lit (.int 1009))) (.un .len (.var 2)))))
    (.seq (.ite (.and (.bin .ne (.var 7) (.tup .nil)) (.and (.un .notNone (.var 8)) (.and (.bin .eq (.call "_law_blanks_of" (.cons (.var 8) .nil)) (.lst .nil)) (.one (.bin .eq (.get (.own 3) (.var 9) (.var 8)) (.var 8))))))
    (.seq (.setI 3 (.var 9) (.var 8))
    (.seq (.asg 5 false (.call "_law_put" (.cons (.var 5) (.cons (.var 7) (.cons (.var 9) .nil)))))
    .skip))
    .skip)
    .skip)))))
    (.seq (.ret (.var 5))
    .skip))))
def f__law_cut : Fn := ⟨"_law_cut", ["_law_whole", "_law_numbers", "_law_blanks", "_law_filling", "_law_places_here", "_law_term_here", "_law_number", "_law_place", "_law_part_here", "_law_blank"], [.sh, .sh, .sh, .mu], b__law_cut⟩

def b__law_goes_by : S := (.seq (.asg 4 true .dic0)
    (.seq (.for (.one 5) .seq (.bin .add (.call "_law_blanks_of" (.cons (.var 0) .nil)) (.call "_law_blanks_of" (.cons (.var 1) .nil))) .nix
    (.seq (.ite (.not (.call "_law_fits" (.cons (.call "_law_filled" (.cons (.var 5) (.cons (.var 2) .nil))) (.cons (.bin .idx (.var 3) (.var 5)) (.cons (.mut 4) .nil)))))
    (.seq (.ret (.lit (.bl false)))
    .skip)
    .skip)
    .skip))
    (.seq (.ret (.lit (.bl true)))
    .skip)))
def f__law_goes_by : Fn := ⟨"_law_goes_by", ["_law_one", "_law_other", "_law_found", "_law_filling", "_law_into", "_law_blank"], [.sh, .sh, .sh, .sh], b__law_goes_by⟩

def b_law_k14 : S := (.seq (.asg 1 false (.call "_law_sorts" (.cons (.call "_law_cell" (.cons (.var 0) (.cons (.lit (.int 0)) .nil))) .nil)))
    (.seq (.asg 2 false (.lit (.str "ABCDEFGHIJKLMNOPQRSTUVWXYZ")))
    (.seq (.asg 3 false (.lc [("_law_k", 11)] (.one 11) .rng (.lit (.int 6)) .nix (.lit (.bl true)) (.bin .idx (.var 2) (.bin .mod (.bin .add (.bin .mod (.call "_law_cell" (.cons (.var 0) (.cons (.lit (.int 1)) .nil))) (.lit (.int 26))) (.bin .mul (.lit (.int 9)) (.var 11))) (.lit (.int 26))))))
    (.seq (.asg 4 false (.bin .eq (.bin .mod (.bin .fdiv (.call "_law_cell" (.cons (.var 0) (.cons (.lit (.int 1)) .nil))) (.lit (.int 26))) (.lit (.int 2))) (.lit (.int 1))))
    (.seq (.asg 5 false (.call "_law_term" (.cons (.call "_law_stream" (.cons (.call "_law_cell" (.cons (.var 0) (.cons (.lit (.int 2)) .nil))) (.cons (.bin .idx (.lst (.cons (.lit (.int 16)) (.cons (.lit (.int 7)) .nil))) (.un .int (.var 4))) .nil))) (.cons (.var 1) (.cons (.lst .nil) (.cons (.lit (.int 10)) .nil))))))
    (.seq (.asg 6 false (.lc [("_law_cell_here", 12)] (.one 12) .seq (.bin .add (.lst (.cons (.lit (.int 1)) (.cons (.lit (.int 2)) (.cons (.lit (.int 3)) (.cons (.lit (.int 4)) .nil))))) (.sl (.var 0) (.lit (.int 3)) (.lit (.int 40)))) .nix (.lit (.bl true)) (.bin .mod (.bin .mul (.var 12) (.lit (.int 1000000007))) (.lit (.int 2147483647)))))
    (.seq (.asg 7 true .dic0)
    (.seq (.asg 8 false (.call "_law_cut" (.cons (.var 5) (.cons (.lc [("_law_k", 11)] (.one 11) .rng (.un .len (.var 6)) .nix (.bin .eq (.bin .mod (.var 11) (.lit (.int 2))) (.lit (.int 0))) (.bin .idx (.var 6) (.var 11))) (.cons (.sl (.var 3) .nix (.lit (.int 4))) (.cons (.mut 7) .nil))))))
    (.seq (.asg 9 false (.call "_law_cut" (.cons (.var 5) (.cons (.lc [("_law_k", 11)] (.one 11) .rng (.un .len (.var 6)) .nix (.bin .eq (.bin .mod (.var 11) (.lit (.int 2))) (.lit (.int 1))) (.bin .idx (.var 6) (.var 11))) (.cons (.sl (.var 3) (.lit (.int 2)) .nix) (.cons (.mut 7) .nil))))))
    (.seq (.ite (.var 4)
    (.seq (.asgP 8 9 (.tup (.cons (.lit (.str "both")) (.cons (.var 8) (.cons (.var 9) .nil)))) (.tup (.cons (.lit (.str "both")) (.cons (.var 9) (.cons (.var 8) .nil)))))
    .skip)
    .skip)
    (.seq (.asg 10 false (.call "made_alike" (.cons (.var 8) (.cons (.var 9) .nil))))
    (.seq (.ret (.and (.call "_law_walks" (.cons (.var 8) (.cons (.var 9) (.cons (.var 10) .nil)))) (.one (.call "_law_goes_by" (.cons (.var 8) (.cons (.var 9) (.cons (.var 10) (.cons (.fz 7) .nil))))))))
    .skip))))))))))))
def f_law_k14 : Fn := ⟨"law", ["_law_script", "_law_sorts_here", "_law_letters", "_law_blanks", "_law_wide", "_law_whole", "_law_numbers", "_law_filling", "_law_one", "_law_other", "_law_found", "_law_k", "_law_cell_here"], [.sh], b_law_k14⟩

def b__law_rest : S := (.seq (.wh 1000 (.and (.un (.isK .str) (.var 0)) (.one (.bin .inn (.var 0) (.var 1))))
    (.seq (.asg 0 false (.bin .idx (.var 1) (.var 0)))
    .skip))
    (.seq (.ret (.var 0))
    .skip))
def f__law_rest : Fn := ⟨"_law_rest", ["_law_term_here", "_law_links"], [.sh, .sh], b__law_rest⟩

def b__law_stands : S := (.seq (.asg 1 false (.call "_law_rest" (.cons (.var 1) (.cons (.var 2) .nil))))
    (.seq (.ite (.un (.isK .str) (.var 1))
    (.seq (.ret (.bin .eq (.var 1) (.var 0)))
    .skip)
    .skip)
    (.seq (.for (.one 3) .seq (.sl (.var 1) (.lit (.int 1)) .nix) .nix
    (.seq (.ite (.call "_law_stands" (.cons (.var 0) (.cons (.var 3) (.cons (.var 2) .nil))))
    (.seq (.ret (.lit (.bl true)))
    .skip)
    .skip)
    .skip))
    (.seq (.ret (.lit (.bl false)))
    .skip))))
def f__law_stands : Fn := ⟨"_law_stands", ["_law_blank", "_law_term_here", "_law_links", "_law_part_here"], [.sh, .sh, .sh], b__law_stands⟩

def b__law_alike : S := (.seq (.asg 0 false (.call "_law_rest" (.cons (.var 0) (.cons (.own 2) .nil))))
    (.seq (.asg 1 false (.call "_law_rest" (.cons (.var 1) (.cons (.own 2) .nil))))
    (.seq (.ite (.and (.un (.isK .str) (.var 0)) (.and (.un (.isK .str) (.var 1)) (.one (.bin .eq (.var 0) (.var 1)))))
    (.seq (.ret (.lit (.bl true)))
    .skip)
    .skip)
    (.seq (.ite (.and (.not (.un (.isK .str) (.var 0))) (.one (.un (.isK .str) (.var 1))))
    (.seq (.asgP 0 1 (.var 1) (.var 0))
    .skip)
    .skip)
    (.seq (.ite (.un (.isK .str) (.var 0))
    (.seq (.ite (.call "_law_stands" (.cons (.var 0) (.cons (.var 1) (.cons (.own 2) .nil))))
    (.seq (.ret (.lit (.bl false)))
    .skip)
    .skip)
    (.seq (.setI 2 (.var 0) (.var 1))
    (.seq (.ret (.lit (.bl true)))
    .skip)))
    .skip)
    (.seq (.ite (.or (.bin .ne (.bin .idx (.var 0) (.lit (.int 0))) (.bin .idx (.var 1) (.lit (.int 0)))) (.one (.bin .ne (.un .len (.var 0)) (.un .len (.var 1)))))
    (.seq (.ret (.lit (.bl false)))
    .skip)
    .skip)
    (.seq (.for (.one 3) .rng2 (.lit (.int 1)) (.un .len (.var 0))
    (.seq (.ite (.not (.call "_law_alike" (.cons (.bin .idx (.var 0) (.var 3)) (.cons (.bin .idx (.var 1) (.var 3)) (.cons (.mut 2) .nil)))))
    (.seq (.ret (.lit (.bl false)))
    .skip)
    .skip)
    .skip))
    (.seq (.ret (.lit (.bl true)))
    .skip))))))))
def f__law_alike : Fn := ⟨"_law_alike", ["_law_one", "_law_other", "_law_links", "_law_k"], [.sh, .sh, .mu], b__law_alike⟩

def b__law_good_k15 : S := (.seq (.ret (.bin .eq (.un .notNone (.call "made_alike" (.cons (.var 0) (.cons (.var 1) .nil)))) (.call "_law_alike" (.cons (.var 0) (.cons (.var 1) (.cons .dic0 .nil))))))
    .skip)
def f__law_good_k15 : Fn := ⟨"_law_good", ["_law_one", "_law_other"], [.sh, .sh], b__law_good_k15⟩

def b_law_k15 : S := (.seq (.asg 1 false (.call "_law_sorts" (.cons (.call "_law_cell" (.cons (.var 0) (.cons (.lit (.int 0)) .nil))) .nil)))
    (.seq (.asg 2 false (.call "_law_blanks" (.cons (.call "_law_cell" (.cons (.var 0) (.cons (.lit (.int 1)) .nil))) .nil)))
    (.seq (.asg 3 false (.bin .add (.bin .add (.lst (.cons (.lit (.int 1)) (.cons (.lit (.int 3)) (.cons (.lit (.int 5)) .nil)))) (.sl (.var 0) .nix (.lit (.int 20)))) (.lst (.cons (.lit (.int 7)) (.cons (.lit (.int 9)) .nil)))))
    (.seq (.for (.one 4) .rng (.bin .sub (.un .len (.var 3)) (.lit (.int 2))) .nix
    (.seq (.asg 5 false (.bin .mod (.bin .mul (.bin .idx (.var 3) (.bin .add (.var 4) (.lit (.int 2)))) (.lit (.int 1000000007))) (.lit (.int 2147483647))))
    (.seq (.asg 6 false (.call "_law_term" (.cons (.call "_law_stream" (.cons (.bin .idx (.var 3) (.var 4)) (.cons (.lit (.int 6)) .nil))) (.cons (.var 1) (.cons (.var 2) (.cons (.lit (.int 6)) .nil))))))
    (.seq (.asg 7 false (.call "_law_second" (.cons (.var 6) (.cons (.bin .idx (.var 3) (.bin .add (.var 4) (.lit (.int 1)))) (.cons (.var 5) (.cons (.var 1) (.cons (.var 2) .nil)))))))
    (.seq (.ite (.or (.not (.call "_law_good" (.cons (.var 6) (.cons (.var 7) .nil)))) (.one (.not (.call "_law_good" (.cons (.bin .idx (.var 2) (.bin .mod (.var 5) (.un .len (.var 2)))) (.cons (.var 7) .nil))))))
    (.seq (.ret (.lit (.bl false)))
    .skip)
    .skip)
    (.seq (.asg 8 false (.bin .lt (.bin .add (.call "_law_count" (.cons (.var 6) .nil)) (.call "_law_count" (.cons (.var 7) .nil))) (.lit (.int 16))))
    (.seq (.asg 9 false (.bin .idx (.bin .idx (.var 1) (.lit (.int 0))) (.lit (.int 0))))
    (.seq (.ite (.and (.var 8) (.one (.not (.call "_law_good" (.cons (.tup (.cons (.var 9) (.cons (.var 6) (.cons (.var 7) .nil)))) (.cons (.tup (.cons (.var 9) (.cons (.var 7) (.cons (.bin .idx (.var 2) (.lit (.int 0))) .nil)))) .nil))))))
    (.seq (.ret (.lit (.bl false)))
    .skip)
    .skip)
    .skip))))))))
    (.seq (.ret (.lit (.bl true)))
    .skip)))))
def f_law_k15 : Fn := ⟨"law", ["_law_script", "_law_sorts_here", "_law_blanks_here", "_law_cells", "_law_k", "_law_number", "_law_one", "_law_other", "_law_wide", "_law_word"], [.sh], b_law_k15⟩

def b_must_rule : S := (.seq (.asgT [2, 3] (.var 0))
    (.seq (.ite (.call "is_blank" (.cons (.var 2) .nil))
    (.seq .never
    .skip)
    .skip)
    (.seq (.for (.one 1) .seq (.call "blanks_of" (.cons (.var 3) .nil)) .nix
    (.seq (.ite (.bin .nin (.var 1) (.call "blanks_of" (.cons (.var 2) .nil)))
    (.seq .never
    .skip)
    .skip)
    .skip))
    .skip)))
def f_must_rule : Fn := ⟨"must_rule", ["rule", "blank", "left", "right"], [.sh], b_must_rule⟩

def b_counts_in : S := (.seq (.ite (.call "is_blank" (.cons (.var 0) .nil))
    (.seq (.ret (.lst .nil))
    .skip)
    .skip)
    (.seq (.asg 1 true (.lst (.cons (.tup (.cons (.bin .idx (.var 0) (.lit (.int 0))) (.cons (.bin .sub (.un .len (.var 0)) (.lit (.int 1))) .nil))) .nil)))
    (.seq (.for (.one 2) .seq (.call "inner" (.cons (.var 0) .nil)) .nix
    (.seq (.aug 1 (.call "counts_in" (.cons (.var 2) .nil)))
    .skip))
    (.seq (.ret (.mv 1))
    .skip))))
def f_counts_in : Fn := ⟨"counts_in", ["term", "found", "part"], [.sh], b_counts_in⟩

def b_must_rules : S := (.seq (.for (.one 2) .seq (.var 0) .nix
    (.seq (.ex (.call "must_rule" (.cons (.var 2) .nil)))
    .skip))
    (.seq (.asg 3 true (.un .list (.var 1)))
    (.seq (.for (.many [7, 8]) .seq (.var 0) .nix
    (.seq (.aug 3 (.lst (.cons (.var 7) (.cons (.var 8) .nil))))
    .skip))
    (.seq (.asg 4 true (.lst .nil))
    (.seq (.for (.one 5) .seq (.fz 3) .nix
    (.seq (.aug 4 (.call "counts_in" (.cons (.var 5) .nil)))
    .skip))
    (.seq (.for (.one 6) .seq (.call "signs_of" (.cons (.fz 3) .nil)) .nix
    (.seq (.ite (.bin .gt (.un .lenSet (.lc [("one", 9), ("count", 10)] (.many [9, 10]) .seq (.fz 4) .nix (.bin .eq (.var 9) (.var 6)) (.var 10))) (.lit (.int 1)))
    (.seq .never
    .skip)
    .skip)
    .skip))
    .skip))))))
def f_must_rules : Fn := ⟨"must_rules", ["rules", "terms", "rule", "row", "found", "term", "sign", "left", "right", "one", "count"], [.sh, .sh], b_must_rules⟩

def b_steps_from : S := (.seq (.asg 2 true (.lst .nil))
    (.seq (.for (.one 3) .seq (.call "places_of" (.cons (.var 1) .nil)) .nix
    (.seq (.asg 4 false (.call "part_at" (.cons (.var 1) (.cons (.var 3) .nil))))
    (.seq (.for (.many [5, 6]) .enum (.var 0) .nix
    (.seq (.asg 7 false (.call "fits" (.cons (.bin .idx (.var 6) (.lit (.int 0))) (.cons (.var 4) .nil))))
    (.seq (.ite (.and (.un .notNone (.var 7)) (.one (.not (.call "is_blank" (.cons (.var 4) .nil)))))
    (.seq (.app 2 (.tup (.cons (.var 3) (.cons (.var 5) (.cons (.call "put_at" (.cons (.var 1) (.cons (.var 3) (.cons (.call "filled" (.cons (.bin .idx (.var 6) (.lit (.int 1))) (.cons (.var 7) .nil))) .nil)))) .nil)))))
    .skip)
    .skip)
    .skip)))
    .skip)))
    (.seq (.ret (.mv 2))
    .skip)))
def f_steps_from : Fn := ⟨"steps_from", ["rules", "term", "found", "place", "part", "number", "rule", "filling"], [.sh, .sh], b_steps_from⟩

def b_steps : S := (.seq (.ex (.call "must_rules" (.cons (.var 0) (.cons (.lst (.cons (.var 1) .nil)) .nil))))
    (.seq (.ret (.call "steps_from" (.cons (.var 0) (.cons (.var 1) .nil))))
    .skip))
def f_steps : Fn := ⟨"steps", ["rules", "term"], [.sh, .sh], b_steps⟩

def b__law_rule : S := (.seq (.asg 3 true (.call "_law_purse" (.cons (.var 0) .nil)))
    (.seq (.asg 4 false (.call "_law_take" (.cons (.mut 3) (.cons (.lit (.int 3)) .nil))))
    (.seq (.asg 5 false (.call "_law_take" (.cons (.mut 3) (.cons (.lit (.int 5040)) .nil))))
    (.seq (.asg 6 false (.bin .add (.lit (.int 3)) (.call "_law_take" (.cons (.mut 3) (.cons (.lit (.int 5)) .nil)))))
    (.seq (.asg 7 false (.call "_law_term" (.cons (.lc [("_law_k", 14)] (.one 14) .rng (.var 6) .nix (.lit (.bl true)) (.call "_law_take" (.cons (.mut 3) (.cons (.lit (.int 4800)) .nil)))) (.cons (.var 1) (.cons (.var 2) (.cons (.lit (.int 5)) .nil))))))
    (.seq (.ite (.un (.isK .str) (.var 7))
    (.seq (.asgT [12, 13] (.bin .idx (.var 1) (.bin .mod (.var 5) (.un .len (.var 1)))))
    (.seq (.asg 7 false (.bin .add (.tup (.cons (.var 12) .nil)) (.bin .mul (.tup (.cons (.var 7) .nil)) (.var 13))))
    .skip))
    .skip)
    (.seq (.asg 8 false (.call "_law_blanks_of" (.cons (.var 7) .nil)))
    (.seq (.asg 9 false (.call "_law_places" (.cons (.var 7) .nil)))
    (.seq (.asg 10 false (.bin .idx (.var 9) (.bin .mod (.var 5) (.un .len (.var 9)))))
    (.seq (.ite (.bin .eq (.var 4) (.lit (.int 0)))
    (.seq (.ret (.tup (.cons (.var 7) (.cons (.call "_law_part" (.cons (.var 7) (.cons (.var 10) .nil))) .nil))))
    .skip)
    .skip)
    (.seq (.asg 6 false (.bin .add (.lit (.int 1)) (.call "_law_take" (.cons (.mut 3) (.cons (.lit (.int 4)) .nil)))))
    (.seq (.asg 11 false (.call "_law_term" (.cons (.lc [("_law_k", 14)] (.one 14) .rng (.var 6) .nix (.lit (.bl true)) (.call "_law_take" (.cons (.mut 3) (.cons (.lit (.int 4800)) .nil)))) (.cons (.var 1) (.cons (.var 8) (.cons (.lit (.int 2)) .nil))))))
    (.seq (.ite (.bin .eq (.var 4) (.lit (.int 1)))
    (.seq (.ret (.tup (.cons (.var 7) (.cons (.var 11) .nil))))
    .skip)
    .skip)
    (.seq (.ret (.tup (.cons (.var 7) (.cons (.call "_law_put" (.cons (.var 7) (.cons (.var 10) (.cons (.var 11) .nil)))) .nil))))
    .skip))))))))))))))
def f__law_rule : Fn := ⟨"_law_rule", ["_law_cell_here", "_law_sorts_here", "_law_blanks_here", "_law_purse_here", "_law_kind", "_law_spot", "_law_size", "_law_left", "_law_kept", "_law_places_here", "_law_place", "_law_right", "_law_word", "_law_many", "_law_k"], [.sh, .sh, .sh], b__law_rule⟩

def b__law_steps : S := (.seq (.asg 2 true (.lst .nil))
    (.seq (.for (.one 3) .seq (.call "_law_places" (.cons (.var 1) .nil)) .nix
    (.seq (.asg 4 false (.call "_law_part" (.cons (.var 1) (.cons (.var 3) .nil))))
    (.seq (.for (.one 5) .rng (.un .len (.var 0)) .nix
    (.seq (.asg 6 true .dic0)
    (.seq (.ite (.call "_law_fits" (.cons (.bin .idx (.bin .idx (.var 0) (.var 5)) (.lit (.int 0))) (.cons (.var 4) (.cons (.mut 6) .nil))))
    (.seq (.app 2 (.tup (.cons (.var 3) (.cons (.var 5) (.cons (.call "_law_put" (.cons (.var 1) (.cons (.var 3) (.cons (.call "_law_filled" (.cons (.bin .idx (.bin .idx (.var 0) (.var 5)) (.lit (.int 1))) (.cons (.fz 6) .nil))) .nil)))) .nil)))))
    .skip)
    .skip)
    .skip)))
    .skip)))
    (.seq (.ret (.mv 2))
    .skip)))
def f__law_steps : Fn := ⟨"_law_steps", ["_law_rules", "_law_term_here", "_law_found", "_law_place", "_law_part_here", "_law_k", "_law_filling"], [.sh, .sh], b__law_steps⟩

def b__law_asked : S := (.seq (.asg 6 false (.call "_law_term" (.cons (.call "_law_stream" (.cons (.var 1) (.cons (.lit (.int 12)) .nil))) (.cons (.var 4) (.cons (.var 5) (.cons (.lit (.int 6)) .nil))))))
    (.seq (.ite (.bin .eq (.var 0) (.lit (.int 0)))
    (.seq (.ret (.var 6))
    .skip)
    .skip)
    (.seq (.asg 7 true (.call "_law_purse" (.cons (.var 2) .nil)))
    (.seq (.asg 8 false (.bin .idx (.bin .idx (.var 3) (.call "_law_take" (.cons (.mut 7) (.cons (.un .len (.var 3)) .nil)))) (.lit (.int 0))))
    (.seq (.asg 9 false (.call "_law_places" (.cons (.var 6) .nil)))
    (.seq (.asg 10 false (.bin .idx (.var 9) (.call "_law_take" (.cons (.mut 7) (.cons (.un .len (.var 9)) .nil)))))
    (.seq (.asg 11 true .dic0)
    (.seq (.for (.one 12) .seq (.call "_law_blanks_of" (.cons (.var 8) .nil)) .nix
    (.seq (.setI 11 (.var 12) (.call "_law_term" (.cons (.lc [("_law_k", 13)] (.one 13) .rng (.lit (.int 3)) .nix (.lit (.bl true)) (.call "_law_take" (.cons (.mut 7) (.cons (.lit (.int 4800)) .nil)))) (.cons (.var 4) (.cons (.var 5) (.cons (.lit (.int 3)) .nil))))))
    .skip))
    (.seq (.asg 8 false (.call "_law_filled" (.cons (.var 8) (.cons (.fz 11) .nil))))
    (.seq (.ite (.bin .eq (.var 0) (.lit (.int 1)))
    (.seq (.ret (.var 8))
    .skip)
    .skip)
    (.seq (.ret (.call "_law_put" (.cons (.var 6) (.cons (.var 10) (.cons (.var 8) .nil)))))
    .skip)))))))))))
def f__law_asked : Fn := ⟨"_law_asked", ["_law_kind", "_law_cell_here", "_law_other", "_law_rules", "_law_sorts_here", "_law_blanks_here", "_law_term_here", "_law_purse_here", "_law_left", "_law_places_here", "_law_place", "_law_filling", "_law_blank", "_law_k"], [.sh, .sh, .sh, .sh, .sh, .sh], b__law_asked⟩

def b__law_good_k21 : S := (.seq (.asg 2 false (.call "_law_steps" (.cons (.var 0) (.cons (.var 1) .nil))))
    (.seq (.asg 3 true (.call "steps" (.cons (.var 0) (.cons (.var 1) .nil))))
    (.seq (.ite (.or (.not (.un (.isK .lst) (.own 3))) (.one (.bin .ne (.own 3) (.var 2))))
    (.seq (.ret (.lit (.bl false)))
    .skip)
    .skip)
    (.seq (.clear 3)
    (.seq (.ret (.bin .eq (.call "steps" (.cons (.var 0) (.cons (.var 1) .nil))) (.var 2)))
    .skip)))))
def f__law_good_k21 : Fn := ⟨"_law_good", ["_law_rules", "_law_term_here", "_law_due", "_law_found"], [.sh, .sh], b__law_good_k21⟩

def b_law_k21 : S := (.seq (.asg 1 false (.call "_law_sorts" (.cons (.call "_law_cell" (.cons (.var 0) (.cons (.lit (.int 0)) .nil))) .nil)))
    (.seq (.asg 2 false (.call "_law_blanks" (.cons (.call "_law_cell" (.cons (.var 0) (.cons (.lit (.int 1)) .nil))) .nil)))
    (.seq (.asg 3 false (.bin .idx (.lst (.cons (.lit (.int 1)) (.cons (.lit (.int 2)) (.cons (.lit (.int 3)) (.cons (.lit (.int 4)) (.cons (.lit (.int 2)) (.cons (.lit (.int 3)) (.cons (.lit (.int 9)) (.cons (.lit (.int 6)) .nil))))))))) (.bin .mod (.call "_law_cell" (.cons (.var 0) (.cons (.lit (.int 2)) .nil))) (.lit (.int 8)))))
    (.seq (.asg 4 false (.lc [("_law_k", 7)] (.one 7) .rng (.var 3) .nix (.lit (.bl true)) (.call "_law_rule" (.cons (.call "_law_cell" (.cons (.var 0) (.cons (.bin .add (.lit (.int 3)) (.var 7)) .nil))) (.cons (.var 1) (.cons (.var 2) .nil))))))
    (.seq (.asg 5 false (.un .list (.var 4)))
    (.seq (.asg 6 false (.bin .add (.bin .add (.lst (.cons (.lit (.int 1)) (.cons (.lit (.int 3)) (.cons (.lit (.int 5)) .nil)))) (.sl (.var 0) (.lit (.int 7)) (.lit (.int 20)))) (.lst (.cons (.lit (.int 7)) .nil))))
    (.seq (.for (.one 7) .rng (.bin .sub (.un .len (.var 6)) (.lit (.int 1))) .nix
    (.seq (.asg 8 false (.bin .mod (.bin .add (.bin .idx (.var 6) (.var 7)) (.bin .idx (.var 6) (.bin .add (.var 7) (.lit (.int 1))))) (.lit (.int 3))))
    (.seq (.asg 9 false (.call "_law_asked" (.cons (.var 8) (.cons (.bin .idx (.var 6) (.var 7)) (.cons (.bin .idx (.var 6) (.bin .add (.var 7) (.lit (.int 1)))) (.cons (.var 4) (.cons (.var 1) (.cons (.var 2) .nil))))))))
    (.seq (.ite (.or (.not (.call "_law_good" (.cons (.var 4) (.cons (.var 9) .nil)))) (.one (.bin .ne (.var 4) (.var 5))))
    (.seq (.ret (.lit (.bl false)))
    .skip)
    .skip)
    (.seq (.asg 10 false (.call "_law_steps" (.cons (.var 4) (.cons (.var 9) .nil))))
    (.seq (.ite (.and (.bin .eq (.var 8) (.lit (.int 0))) (.and (.bin .ne (.var 10) (.lst .nil)) (.one (.bin .lt (.call "_law_count" (.cons (.bin .idx (.bin .idx (.var 10) (.un .neg (.lit (.int 1)))) (.lit (.int 2))) .nil)) (.lit (.int 30))))))
    (.seq (.ite (.not (.call "_law_good" (.cons (.var 4) (.cons (.bin .idx (.bin .idx (.var 10) (.un .neg (.lit (.int 1)))) (.lit (.int 2))) .nil))))
    (.seq (.ret (.lit (.bl false)))
    .skip)
    .skip)
    .skip)
    .skip)
    .skip))))))
    (.seq (.ret (.lit (.bl true)))
    .skip))))))))
def f_law_k21 : Fn := ⟨"law", ["_law_script", "_law_sorts_here", "_law_blanks_here", "_law_many", "_law_rules", "_law_kept", "_law_cells", "_law_k", "_law_kind", "_law_term_here", "_law_row"], [.sh], b_law_k21⟩

def b_first_step : S := (.seq (.for (.one 2) .seq (.call "places_of" (.cons (.var 1) .nil)) .nix
    (.seq (.asg 3 false (.call "part_at" (.cons (.var 1) (.cons (.var 2) .nil))))
    (.seq (.ite (.not (.call "is_blank" (.cons (.var 3) .nil)))
    (.seq (.for (.many [4, 5]) .enum (.var 0) .nix
    (.seq (.asg 6 false (.call "fits" (.cons (.bin .idx (.var 5) (.lit (.int 0))) (.cons (.var 3) .nil))))
    (.seq (.ite (.un .notNone (.var 6))
    (.seq (.ret (.tup (.cons (.var 2) (.cons (.var 4) (.cons (.call "put_at" (.cons (.var 1) (.cons (.var 2) (.cons (.call "filled" (.cons (.bin .idx (.var 5) (.lit (.int 1))) (.cons (.var 6) .nil))) .nil)))) .nil)))))
    .skip)
    .skip)
    .skip)))
    .skip)
    .skip)
    .skip)))
    (.seq (.ret (.lit .non))
    .skip))
def f_first_step : Fn := ⟨"first_step", ["rules", "term", "place", "part", "number", "rule", "filling"], [.sh, .sh], b_first_step⟩

def b_chain_from : S := (.seq (.asg 2 true (.lst .nil))
    (.seq (.asg 3 false (.call "first_step" (.cons (.var 0) (.cons (.var 1) .nil))))
    (.seq (.wh 1000 (.un .notNone (.var 3))
    (.seq (.ite (.or (.bin .eq (.un .len (.own 2)) (.gl "MOST_STEPS" (.int 30))) (.one (.bin .gt (.call "parts_of" (.cons (.bin .idx (.var 3) (.lit (.int 2))) .nil)) (.gl "MOST_PARTS" (.int 80)))))
    (.seq .never
    .skip)
    .skip)
    (.seq (.app 2 (.var 3))
    (.seq (.asg 3 false (.call "first_step" (.cons (.var 0) (.cons (.bin .idx (.var 3) (.lit (.int 2))) .nil))))
    .skip))))
    (.seq (.ret (.mv 2))
    .skip))))
def f_chain_from : Fn := ⟨"chain_from", ["rules", "term", "found", "step"], [.sh, .sh], b_chain_from⟩

def b_chain : S := (.seq (.ex (.call "must_rules" (.cons (.var 0) (.cons (.lst (.cons (.var 1) .nil)) .nil))))
    (.seq (.ret (.call "chain_from" (.cons (.var 0) (.cons (.var 1) .nil))))
    .skip))
def f_chain : Fn := ⟨"chain", ["rules", "term"], [.sh, .sh], b_chain⟩

def b_end_of : S := (.seq (.ite (.bin .eq (.var 1) (.lst .nil))
    (.seq (.ret (.var 0))
    .skip)
    .skip)
    (.seq (.ret (.bin .idx (.bin .idx (.var 1) (.un .neg (.lit (.int 1)))) (.lit (.int 2))))
    .skip))
def f_end_of : Fn := ⟨"end_of", ["term", "row"], [.sh, .sh], b_end_of⟩

def b_end : S := (.seq (.ret (.call "end_of" (.cons (.var 1) (.cons (.call "chain" (.cons (.var 0) (.cons (.var 1) .nil))) .nil))))
    .skip)
def f_end : Fn := ⟨"end", ["rules", "term"], [.sh, .sh], b_end⟩

def b__law_first : S := (.seq (.for (.one 2) .seq (.call "_law_places" (.cons (.var 1) .nil)) .nix
    (.seq (.asg 3 false (.call "_law_part" (.cons (.var 1) (.cons (.var 2) .nil))))
    (.seq (.for (.one 4) .rng (.un .len (.var 0)) .nix
    (.seq (.asg 5 true .dic0)
    (.seq (.ite (.call "_law_fits" (.cons (.bin .idx (.bin .idx (.var 0) (.var 4)) (.lit (.int 0))) (.cons (.var 3) (.cons (.mut 5) .nil))))
    (.seq (.ret (.tup (.cons (.var 2) (.cons (.var 4) (.cons (.call "_law_put" (.cons (.var 1) (.cons (.var 2) (.cons (.call "_law_filled" (.cons (.bin .idx (.bin .idx (.var 0) (.var 4)) (.lit (.int 1))) (.cons (.fz 5) .nil))) .nil)))) .nil)))))
    .skip)
    .skip)
    .skip)))
    .skip)))
    (.seq (.ret (.lit .non))
    .skip))
def f__law_first : Fn := ⟨"_law_first", ["_law_rules", "_law_term_here", "_law_place", "_law_part_here", "_law_k", "_law_filling"], [.sh, .sh], b__law_first⟩

def b__law_chain : S := (.seq (.asg 2 true (.lst .nil))
    (.seq (.wh 1000 (.bin .lt (.call "_law_count" (.cons (.var 1) .nil)) (.lit (.int 81)))
    (.seq (.asg 3 false (.call "_law_first" (.cons (.var 0) (.cons (.var 1) .nil))))
    (.seq (.ite (.un .isNone (.var 3))
    (.seq (.ret (.mv 2))
    .skip)
    .skip)
    (.seq (.ite (.bin .eq (.un .len (.own 2)) (.lit (.int 30)))
    (.seq (.ret (.lit .non))
    .skip)
    .skip)
    (.seq (.app 2 (.var 3))
    (.seq (.asg 1 false (.bin .idx (.var 3) (.lit (.int 2))))
    .skip))))))
    (.seq (.ret (.lit .non))
    .skip)))
def f__law_chain : Fn := ⟨"_law_chain", ["_law_rules", "_law_term_here", "_law_found", "_law_one"], [.sh, .sh], b__law_chain⟩

def b__law_good_k22 : S := (.seq (.asg 2 false (.call "_law_chain" (.cons (.var 0) (.cons (.var 1) .nil))))
    (.seq (.ite (.un .isNone (.var 2))
    (.seq (.ite (.not (.call "_law_refused" (.cons (.call "_law_caught" (.cons (.lit (.int 0)) (.cons (.var 0) (.cons (.var 1) .nil)))) (.cons (.var 1) .nil))))
    (.seq (.ret (.lit (.bl false)))
    .skip)
    .skip)
    (.seq (.ret (.call "_law_refused" (.cons (.call "_law_caught" (.cons (.lit (.int 1)) (.cons (.var 0) (.cons (.var 1) .nil)))) (.cons (.var 1) .nil))))
    .skip))
    .skip)
    (.seq (.asg 3 false (.call "chain" (.cons (.var 0) (.cons (.var 1) .nil))))
    (.seq (.ite (.or (.not (.un (.isK .lst) (.var 3))) (.one (.bin .ne (.var 3) (.var 2))))
    (.seq (.ret (.lit (.bl false)))
    .skip)
    .skip)
    (.seq (.asg 4 false (.var 1))
    (.seq (.ite (.bin .ne (.var 2) (.lst .nil))
    (.seq (.asg 4 false (.bin .idx (.bin .idx (.var 2) (.un .neg (.lit (.int 1)))) (.lit (.int 2))))
    .skip)
    .skip)
    (.seq (.ret (.bin .eq (.call "end" (.cons (.var 0) (.cons (.var 1) .nil))) (.var 4)))
    .skip)))))))
def f__law_good_k22 : Fn := ⟨"_law_good", ["_law_rules", "_law_term_here", "_law_due", "_law_found", "_law_last"], [.sh, .sh], b__law_good_k22⟩

def b__law_tower : S := (.seq (.for (.one 3) .rng (.var 1) .nix
    (.seq (.asg 2 false (.tup (.cons (.var 0) (.cons (.var 2) .nil))))
    .skip))
    (.seq (.ret (.var 2))
    .skip))
def f__law_tower : Fn := ⟨"_law_tower", ["_law_word", "_law_often", "_law_term_here", "_law_k"], [.sh, .sh, .sh], b__law_tower⟩

def b__law_towers : S := (.seq (.asgT [9, 10, 11, 12, 13] (.var 0))
    (.seq (.asg 2 false (.tup (.cons (.var 13) .nil)))
    (.seq (.asg 3 false (.bin .add (.lit (.int 10)) (.bin .mod (.bin .fdiv (.var 1) (.lit (.int 5))) (.lit (.int 2)))))
    (.seq (.asg 4 false (.lst (.cons (.call "_law_tower" (.cons (.var 9) (.cons (.var 3) (.cons (.var 2) .nil)))) (.cons (.call "_law_tower" (.cons (.var 9) (.cons (.lit (.int 10)) (.cons (.var 2) .nil)))) .nil))))
    (.seq (.asg 5 false (.lst (.cons (.tup (.cons (.tup (.cons (.var 9) (.cons (.lit (.str "X")) .nil))) (.cons (.lit (.str "X")) .nil))) .nil)))
    (.seq (.asg 6 false (.tup (.cons (.var 10) (.cons (.bin .idx (.var 4) (.lit (.int 0))) (.cons (.call "_law_tower" (.cons (.var 9) (.cons (.bin .sub (.bin .add (.lit (.int 18)) (.bin .mod (.var 1) (.lit (.int 5)))) (.var 3)) (.cons (.var 2) .nil)))) (.cons (.bin .idx (.var 4) (.lit (.int 1))) .nil))))))
    (.seq (.ite (.not (.call "_law_good" (.cons (.var 5) (.cons (.var 6) .nil))))
    (.seq (.ret (.lit (.bl false)))
    .skip)
    .skip)
    (.seq (.asg 5 false (.lst (.cons (.tup (.cons (.tup (.cons (.var 11) (.cons (.lit (.str "X")) .nil))) (.cons (.tup (.cons (.var 10) (.cons (.lit (.str "X")) (.cons (.lit (.str "X")) (.cons (.lit (.str "X")) .nil))))) .nil))) .nil)))
    (.seq (.asg 7 false (.call "_law_tower" (.cons (.var 9) (.cons (.bin .add (.lit (.int 1)) (.bin .mod (.bin .fdiv (.var 1) (.lit (.int 15))) (.lit (.int 3)))) (.cons (.var 2) .nil)))))
    (.seq (.asg 8 false (.tup (.cons (.var 10) (.cons (.bin .idx (.var 4) (.lit (.int 0))) (.cons (.call "_law_tower" (.cons (.var 9) (.cons (.bin .sub (.lit (.int 20)) (.var 3)) (.cons (.var 2) .nil)))) (.cons (.var 7) .nil))))))
    (.seq (.asg 6 false (.tup (.cons (.var 11) (.cons (.var 8) .nil))))
    (.seq (.ret (.call "_law_good" (.cons (.var 5) (.cons (.bin .idx (.lst (.cons (.var 6) (.cons (.tup (.cons (.var 9) (.cons (.var 6) .nil))) (.cons (.tup (.cons (.var 12) (.cons (.var 6) (.cons (.var 2) .nil)))) .nil)))) (.bin .mod (.bin .fdiv (.var 1) (.lit (.int 45))) (.lit (.int 3)))) .nil))))
    .skip))))))))))))
def f__law_towers : Fn := ⟨"_law_towers", ["_law_words_here", "_law_cell_here", "_law_last", "_law_far", "_law_row", "_law_rules", "_law_term_here", "_law_low", "_law_wide", "_law_one", "_law_two", "_law_three", "_law_four", "_law_five"], [.sh, .sh], b__law_towers⟩

def b_law_k22 : S := (.seq (.asg 1 false (.call "_law_sorts" (.cons (.call "_law_cell" (.cons (.var 0) (.cons (.lit (.int 0)) .nil))) .nil)))
    (.seq (.asg 2 false (.call "_law_blanks" (.cons (.call "_law_cell" (.cons (.var 0) (.cons (.lit (.int 1)) .nil))) .nil)))
    (.seq (.asg 3 false (.bin .add (.lit (.int 1)) (.bin .mod (.call "_law_cell" (.cons (.var 0) (.cons (.lit (.int 2)) .nil))) (.lit (.int 4)))))
    (.seq (.asg 4 false (.lc [("_law_k", 6)] (.one 6) .rng (.var 3) .nix (.lit (.bl true)) (.call "_law_rule" (.cons (.call "_law_cell" (.cons (.var 0) (.cons (.bin .add (.lit (.int 3)) (.var 6)) .nil))) (.cons (.var 1) (.cons (.var 2) .nil))))))
    (.seq (.for (.one 5) .seq (.bin .add (.lst (.cons (.lit (.int 7)) (.cons (.lit (.int 11)) .nil))) (.sl (.var 0) (.lit (.int 7)) (.lit (.int 10)))) .nix
    (.seq (.ite (.not (.call "_law_good" (.cons (.var 4) (.cons (.call "_law_term" (.cons (.call "_law_stream" (.cons (.var 5) (.cons (.lit (.int 15)) .nil))) (.cons (.var 1) (.cons (.var 2) (.cons (.lit (.int 6)) .nil))))) .nil))))
    (.seq (.ret (.lit (.bl false)))
    .skip)
    .skip)
    .skip))
    (.seq (.for (.one 5) .seq (.bin .add (.lst (.cons (.lit (.int 62)) (.cons (.lit (.int 108)) .nil))) (.sl (.var 0) (.lit (.int 2)) (.lit (.int 4)))) .nix
    (.seq (.ite (.not (.call "_law_towers" (.cons (.call "_law_words" (.cons (.call "_law_cell" (.cons (.var 0) (.cons (.lit (.int 0)) .nil))) .nil)) (.cons (.var 5) .nil))))
    (.seq (.ret (.lit (.bl false)))
    .skip)
    .skip)
    .skip))
    (.seq (.ret (.lit (.bl true)))
    .skip)))))))
def f_law_k22 : Fn := ⟨"law", ["_law_script", "_law_sorts_here", "_law_blanks_here", "_law_many", "_law_rules", "_law_cell_here", "_law_k"], [.sh], b_law_k22⟩

def b__law_sorts_k23 : S := (.seq (.asg 1 false (.call "_law_words" (.cons (.var 0) .nil)))
    (.seq (.asg 2 false (.bin .idx (.lst (.cons (.lst (.cons (.lit (.int 0)) (.cons (.lit (.int 2)) (.cons (.lit (.int 1)) (.cons (.lit (.int 0)) (.cons (.lit (.int 3)) .nil)))))) (.cons (.lst (.cons (.lit (.int 0)) (.cons (.lit (.int 1)) (.cons (.lit (.int 2)) (.cons (.lit (.int 2)) (.cons (.lit (.int 0)) .nil)))))) (.cons (.lst (.cons (.lit (.int 0)) (.cons (.lit (.int 3)) (.cons (.lit (.int 1)) (.cons (.lit (.int 1)) (.cons (.lit (.int 0)) .nil)))))) (.cons (.lst (.cons (.lit (.int 0)) (.cons (.lit (.int 2)) (.cons (.lit (.int 0)) (.cons (.lit (.int 1)) (.cons (.lit (.int 1)) .nil)))))) .nil))))) (.bin .mod (.bin .fdiv (.var 0) (.lit (.int 3))) (.lit (.int 4)))))
    (.seq (.asg 3 false (.bin .add (.lit (.int 2)) (.bin .mod (.bin .fdiv (.var 0) (.lit (.int 12))) (.lit (.int 4)))))
    (.seq (.ret (.lc [("_law_k", 4)] (.one 4) .rng (.var 3) .nix (.lit (.bl true)) (.tup (.cons (.bin .idx (.var 1) (.var 4)) (.cons (.bin .idx (.var 2) (.var 4)) .nil)))))
    .skip))))
def f__law_sorts_k23 : Fn := ⟨"_law_sorts", ["_law_cell_here", "_law_words_here", "_law_counts_here", "_law_many", "_law_k"], [.sh], b__law_sorts_k23⟩

def b__law_rule_k23 : S := (.seq (.asg 3 true (.call "_law_purse" (.cons (.var 0) .nil)))
    (.seq (.asg 4 false (.call "_law_take" (.cons (.mut 3) (.cons (.lit (.int 3)) .nil))))
    (.seq (.asg 5 false (.call "_law_take" (.cons (.mut 3) (.cons (.lit (.int 5040)) .nil))))
    (.seq (.asg 6 false (.bin .add (.lit (.int 3)) (.call "_law_take" (.cons (.mut 3) (.cons (.lit (.int 5)) .nil)))))
    (.seq (.asg 7 false (.call "_law_term" (.cons (.lc [("_law_k", 14)] (.one 14) .rng (.var 6) .nix (.lit (.bl true)) (.call "_law_take" (.cons (.mut 3) (.cons (.lit (.int 4800)) .nil)))) (.cons (.var 1) (.cons (.var 2) (.cons (.lit (.int 4)) .nil))))))
    (.seq (.ite (.un (.isK .str) (.var 7))
    (.seq (.asgT [12, 13] (.bin .idx (.var 1) (.bin .mod (.var 5) (.un .len (.var 1)))))
    (.seq (.asg 7 false (.bin .add (.tup (.cons (.var 12) .nil)) (.bin .mul (.tup (.cons (.var 7) .nil)) (.var 13))))
    .skip))
    .skip)
    (.seq (.asg 8 false (.call "_law_blanks_of" (.cons (.var 7) .nil)))
    (.seq (.asg 9 false (.call "_law_places" (.cons (.var 7) .nil)))
    (.seq (.asg 10 false (.bin .idx (.var 9) (.bin .mod (.var 5) (.un .len (.var 9)))))
    (.seq (.ite (.bin .eq (.var 4) (.lit (.int 0)))
    (.seq (.ret (.tup (.cons (.var 7) (.cons (.call "_law_part" (.cons (.var 7) (.cons (.var 10) .nil))) .nil))))
    .skip)
    .skip)
    (.seq (.asg 6 false (.bin .add (.lit (.int 1)) (.call "_law_take" (.cons (.mut 3) (.cons (.lit (.int 4)) .nil)))))
    (.seq (.asg 11 false (.call "_law_term" (.cons (.lc [("_law_k", 14)] (.one 14) .rng (.var 6) .nix (.lit (.bl true)) (.call "_law_take" (.cons (.mut 3) (.cons (.lit (.int 4800)) .nil)))) (.cons (.var 1) (.cons (.var 8) (.cons (.lit (.int 2)) .nil))))))
    (.seq (.ite (.bin .eq (.var 4) (.lit (.int 1)))
    (.seq (.ret (.tup (.cons (.var 7) (.cons (.var 11) .nil))))
    .skip)
    .skip)
    (.seq (.ret (.tup (.cons (.var 7) (.cons (.call "_law_put" (.cons (.var 7) (.cons (.var 10) (.cons (.var 11) .nil)))) .nil))))
    .skip))))))))))))))
def f__law_rule_k23 : Fn := ⟨"_law_rule", ["_law_cell_here", "_law_sorts_here", "_law_blanks_here", "_law_purse_here", "_law_kind", "_law_spot", "_law_size", "_law_left", "_law_kept", "_law_places_here", "_law_place", "_law_right", "_law_word", "_law_many", "_law_k"], [.sh, .sh, .sh], b__law_rule_k23⟩

def b__law_wider : S := (.seq (.asg 3 false (.lc [("_law_place", 4)] (.one 4) .seq (.call "_law_places" (.cons (.var 0) .nil)) .nix (.bin .lt (.un .len (.call "_law_part" (.cons (.var 0) (.cons (.var 4) .nil)))) (.lit (.int 4))) (.var 4)))
    (.seq (.asg 3 false (.lc [("_law_place", 4)] (.one 4) .seq (.var 3) .nix (.un (.isK .tup) (.call "_law_part" (.cons (.var 0) (.cons (.var 4) .nil)))) (.var 4)))
    (.seq (.ite (.bin .eq (.var 3) (.lst .nil))
    (.seq (.ret (.var 0))
    .skip)
    .skip)
    (.seq (.asg 4 false (.bin .idx (.var 3) (.bin .mod (.var 1) (.un .len (.var 3)))))
    (.seq (.ret (.call "_law_put" (.cons (.var 0) (.cons (.var 4) (.cons (.bin .add (.call "_law_part" (.cons (.var 0) (.cons (.var 4) .nil))) (.tup (.cons (.var 2) .nil))) .nil)))))
    .skip)))))
def f__law_wider : Fn := ⟨"_law_wider", ["_law_term_here", "_law_number", "_law_new", "_law_places_here", "_law_place"], [.sh, .sh, .sh], b__law_wider⟩

def b__law_spoiled_k23 : S := (.seq (.asg 4 true (.un .list (.var 0)))
    (.seq (.asg 5 false (.bin .mod (.var 2) (.un .len (.var 0))))
    (.seq (.asgT [6, 7] (.bin .idx (.var 0) (.var 5)))
    (.seq (.ite (.bin .eq (.bin .mod (.var 1) (.lit (.int 4))) (.lit (.int 1)))
    (.seq (.setI 4 (.var 5) (.tup (.cons (.lit (.str "Q")) (.cons (.var 7) .nil))))
    .skip)
    .skip)
    (.seq (.ite (.bin .eq (.bin .mod (.var 1) (.lit (.int 4))) (.lit (.int 2)))
    (.seq (.asg 8 false (.call "_law_places" (.cons (.var 7) .nil)))
    (.seq (.asg 9 false (.bin .idx (.lc [("_law_letter", 10)] (.one 10) .chars (.lit (.str "QJXZK")) .nix (.bin .nin (.var 10) (.call "_law_blanks_of" (.cons (.var 6) .nil))) (.var 10)) (.lit (.int 0))))
    (.seq (.setI 4 (.var 5) (.tup (.cons (.var 6) (.cons (.call "_law_put" (.cons (.var 7) (.cons (.bin .idx (.var 8) (.bin .mod (.bin .fdiv (.var 2) (.lit (.int 4))) (.un .len (.var 8)))) (.cons (.var 9) .nil)))) .nil))))
    .skip)))
    .skip)
    (.seq (.ite (.bin .eq (.bin .mod (.var 1) (.lit (.int 4))) (.lit (.int 3)))
    (.seq (.setI 4 (.var 5) (.tup (.cons (.call "_law_wider" (.cons (.var 6) (.cons (.bin .fdiv (.var 2) (.lit (.int 4))) (.cons (.tup (.cons (.bin .idx (.bin .idx (.var 3) (.lit (.int 0))) (.lit (.int 0))) .nil)) .nil)))) (.cons (.var 7) .nil))))
    .skip)
    .skip)
    (.seq (.ret (.mv 4))
    .skip)))))))
def f__law_spoiled_k23 : Fn := ⟨"_law_spoiled", ["_law_rules", "_law_cell_here", "_law_number", "_law_sorts_here", "_law_found", "_law_at", "_law_left", "_law_right", "_law_places_here", "_law_spare", "_law_letter"], [.sh, .sh, .sh, .sh], b__law_spoiled_k23⟩

def b__law_counts : S := (.seq (.ite (.un (.isK .str) (.var 0))
    (.seq (.ret (.lst .nil))
    .skip)
    .skip)
    (.seq (.asg 1 false (.lst (.cons (.tup (.cons (.bin .idx (.var 0) (.lit (.int 0))) (.cons (.bin .sub (.un .len (.var 0)) (.lit (.int 1))) .nil))) .nil)))
    (.seq (.for (.one 2) .seq (.sl (.var 0) (.lit (.int 1)) .nix) .nix
    (.seq (.asg 1 false (.bin .add (.var 1) (.call "_law_counts" (.cons (.var 2) .nil))))
    .skip))
    (.seq (.ret (.var 1))
    .skip))))
def f__law_counts : Fn := ⟨"_law_counts", ["_law_term_here", "_law_found", "_law_part_here"], [.sh], b__law_counts⟩

def b__law_due : S := (.seq (.asg 2 false (.call "_law_counts" (.cons (.var 1) .nil)))
    (.seq (.for (.one 3) .seq (.var 0) .nix
    (.seq (.asg 5 false (.lc [("_law_blank", 6)] (.one 6) .seq (.call "_law_blanks_of" (.cons (.bin .idx (.var 3) (.lit (.int 1))) .nil)) .nix (.bin .nin (.var 6) (.call "_law_blanks_of" (.cons (.bin .idx (.var 3) (.lit (.int 0))) .nil))) (.var 6)))
    (.seq (.ite (.or (.un (.isK .str) (.bin .idx (.var 3) (.lit (.int 0)))) (.one (.bin .ne (.var 5) (.lst .nil))))
    (.seq (.ret (.lst (.cons (.lit (.str "rule")) (.cons (.var 3) .nil))))
    .skip)
    .skip)
    (.seq (.asg 2 false (.bin .add (.bin .add (.var 2) (.call "_law_counts" (.cons (.bin .idx (.var 3) (.lit (.int 0))) .nil))) (.call "_law_counts" (.cons (.bin .idx (.var 3) (.lit (.int 1))) .nil))))
    .skip))))
    (.seq (.for (.one 4) .seq (.un .sortSet (.lc [("_law_one", 3)] (.one 3) .seq (.var 2) .nix (.lit (.bl true)) (.bin .idx (.var 3) (.lit (.int 0))))) .nix
    (.seq (.ite (.bin .gt (.un .lenSet (.lc [("_law_one", 3)] (.one 3) .seq (.var 2) .nix (.bin .eq (.bin .idx (.var 3) (.lit (.int 0))) (.var 4)) (.bin .idx (.var 3) (.lit (.int 1))))) (.lit (.int 1)))
    (.seq (.ret (.lst (.cons (.lit (.str "sign")) (.cons (.var 4) .nil))))
    .skip)
    .skip)
    .skip))
    (.seq (.ret (.lst .nil))
    .skip))))
def f__law_due : Fn := ⟨"_law_due", ["_law_rules", "_law_term_here", "_law_row", "_law_one", "_law_word", "_law_lacks", "_law_blank"], [.sh, .sh], b__law_due⟩

def b__law_good_k23 : S := (.seq (.asg 3 false (.un .list (.var 0)))
    (.seq (.asg 4 false (.call "_law_due" (.cons (.var 0) (.cons (.var 1) .nil))))
    (.seq (.ite (.bin .eq (.var 4) (.lst .nil))
    (.seq (.ite (.or (.un .notNone (.call "must_rules" (.cons (.var 0) (.cons (.lst (.cons (.var 1) (.cons (.lit (.str "X")) .nil))) .nil)))) (.one (.un .notNone (.call "must_rules" (.cons (.var 0) (.cons (.lst .nil) .nil))))))
    (.seq (.ret (.lit (.bl false)))
    .skip)
    .skip)
    (.seq (.ret (.and (.un .isNone (.call "must_rules" (.cons (.var 0) (.cons (.lst (.cons (.lit (.str "X")) (.cons (.var 1) .nil))) .nil)))) (.one (.bin .eq (.var 0) (.var 3)))))
    .skip))
    .skip)
    (.seq (.for (.one 5) .rng (.lit (.int 4)) .nix
    (.seq (.ite (.not (.call "_law_refused" (.cons (.call "_law_caught" (.cons (.bin .mod (.bin .add (.var 5) (.var 2)) (.lit (.int 4))) (.cons (.var 0) (.cons (.var 1) .nil)))) (.cons (.var 4) .nil))))
    (.seq (.ret (.lit (.bl false)))
    .skip)
    .skip)
    .skip))
    (.seq (.ret (.bin .eq (.var 0) (.var 3)))
    .skip)))))
def f__law_good_k23 : Fn := ⟨"_law_good", ["_law_rules", "_law_term_here", "_law_cell_here", "_law_kept", "_law_due_here", "_law_way"], [.sh, .sh, .sh], b__law_good_k23⟩

def b_law_k23 : S := (.seq (.asg 1 false (.call "_law_sorts" (.cons (.call "_law_cell" (.cons (.var 0) (.cons (.lit (.int 0)) .nil))) .nil)))
    (.seq (.asg 2 false (.call "_law_blanks" (.cons (.call "_law_cell" (.cons (.var 0) (.cons (.lit (.int 1)) .nil))) .nil)))
    (.seq (.asg 3 false (.bin .add (.lit (.int 1)) (.bin .mod (.call "_law_cell" (.cons (.var 0) (.cons (.lit (.int 2)) .nil))) (.lit (.int 4)))))
    (.seq (.asg 4 false (.lc [("_law_k", 9)] (.one 9) .rng (.var 3) .nix (.lit (.bl true)) (.call "_law_rule" (.cons (.call "_law_cell" (.cons (.var 0) (.cons (.bin .add (.lit (.int 3)) (.var 9)) .nil))) (.cons (.var 1) (.cons (.var 2) .nil))))))
    (.seq (.asg 5 false (.call "_law_term" (.cons (.call "_law_stream" (.cons (.bin .fdiv (.call "_law_cell" (.cons (.var 0) (.cons (.lit (.int 2)) .nil))) (.lit (.int 4))) (.cons (.lit (.int 10)) .nil))) (.cons (.var 1) (.cons (.var 2) (.cons (.lit (.int 6)) .nil))))))
    (.seq (.for (.one 6) .seq (.bin .add (.lst (.cons (.lit (.int 0)) (.cons (.lit (.int 1)) (.cons (.lit (.int 2)) (.cons (.lit (.int 3)) .nil))))) (.sl (.var 0) (.lit (.int 7)) (.lit (.int 20)))) .nix
    (.seq (.asg 7 false (.bin .mod (.bin .mul (.bin .fdiv (.var 6) (.lit (.int 8))) (.lit (.int 1000000007))) (.lit (.int 2147483647))))
    (.seq (.asg 8 false (.call "_law_spoiled" (.cons (.var 4) (.cons (.var 6) (.cons (.var 7) (.cons (.var 1) .nil))))))
    (.seq (.ite (.not (.call "_law_good" (.cons (.var 8) (.cons (.var 5) (.cons (.var 6) .nil)))))
    (.seq (.ret (.lit (.bl false)))
    .skip)
    .skip)
    (.seq (.ite (.bin .eq (.bin .mod (.bin .fdiv (.var 6) (.lit (.int 4))) (.lit (.int 2))) (.lit (.int 1)))
    (.seq (.asg 8 false (.call "_law_spoiled" (.cons (.var 8) (.cons (.var 7) (.cons (.bin .fdiv (.var 7) (.lit (.int 7))) (.cons (.var 1) .nil))))))
    (.seq (.ite (.not (.call "_law_good" (.cons (.var 8) (.cons (.call "_law_wider" (.cons (.var 5) (.cons (.var 7) (.cons (.tup (.cons (.bin .idx (.bin .idx (.var 1) (.lit (.int 0))) (.lit (.int 0))) .nil)) .nil)))) (.cons (.var 6) .nil)))))
    (.seq (.ret (.lit (.bl false)))
    .skip)
    .skip)
    .skip))
    .skip)
    .skip)))))
    (.seq (.ret (.call "_law_good" (.cons (.var 4) (.cons (.var 5) (.cons (.lit (.int 0)) .nil)))))
    .skip)))))))
def f_law_k23 : Fn := ⟨"law", ["_law_script", "_law_sorts_here", "_law_blanks_here", "_law_many", "_law_rules", "_law_term_here", "_law_cell_here", "_law_number", "_law_made", "_law_k"], [.sh], b_law_k23⟩

def b__law_filled_k24 : S := (.seq (.ite (.un (.isK .str) (.var 0))
    (.seq (.ret (.get (.var 1) (.var 0) (.var 0)))
    .skip)
    .skip)
    (.seq (.ret (.bin .add (.sl (.var 0) .nix (.lit (.int 1))) (.un .tuple (.lc [("_law_part_here", 2)] (.one 2) .seq (.sl (.var 0) (.lit (.int 1)) .nix) .nix (.lit (.bl true)) (.call "_law_filled" (.cons (.var 2) (.cons (.var 1) .nil)))))))
    .skip))
def f__law_filled_k24 : Fn := ⟨"_law_filled", ["_law_term_here", "_law_filling_here", "_law_part_here"], [.sh, .sh], b__law_filled_k24⟩

def b__law_fits_k24 : S := (.seq (.ite (.un (.isK .str) (.var 0))
    (.seq (.ite (.bin .nin (.var 0) (.own 2))
    (.seq (.setI 2 (.var 0) (.var 1))
    .skip)
    .skip)
    (.seq (.ret (.bin .eq (.bin .idx (.own 2) (.var 0)) (.var 1)))
    .skip))
    .skip)
    (.seq (.ite (.or (.un (.isK .str) (.var 1)) (.or (.bin .ne (.bin .idx (.var 0) (.lit (.int 0))) (.bin .idx (.var 1) (.lit (.int 0)))) (.one (.bin .ne (.un .len (.var 0)) (.un .len (.var 1))))))
    (.seq (.ret (.lit (.bl false)))
    .skip)
    .skip)
    (.seq (.for (.one 3) .rng2 (.lit (.int 1)) (.un .len (.var 1))
    (.seq (.ite (.not (.call "_law_fits" (.cons (.bin .idx (.var 0) (.var 3)) (.cons (.bin .idx (.var 1) (.var 3)) (.cons (.mut 2) .nil)))))
    (.seq (.ret (.lit (.bl false)))
    .skip)
    .skip)
    .skip))
    (.seq (.ret (.lit (.bl true)))
    .skip))))
def f__law_fits_k24 : Fn := ⟨"_law_fits", ["_law_pattern", "_law_term_here", "_law_filling_here", "_law_k"], [.sh, .sh, .mu], b__law_fits_k24⟩

def b__law_asked_k24 : S := (.seq (.ite (.bin .eq (.bin .mod (.var 0) (.lit (.int 3))) (.lit (.int 0)))
    (.seq (.ret (.bin .idx (.bin .idx (.var 1) (.bin .mod (.bin .fdiv (.var 0) (.lit (.int 3))) (.un .len (.var 1)))) (.lit (.int 0))))
    .skip)
    .skip)
    (.seq (.ret (.call "_law_term" (.cons (.call "_law_stream" (.cons (.bin .fdiv (.var 0) (.lit (.int 3))) (.cons (.lit (.int 9)) .nil))) (.cons (.var 2) (.cons (.var 3) (.cons (.lit (.int 6)) .nil))))))
    .skip))
def f__law_asked_k24 : Fn := ⟨"_law_asked", ["_law_cell_here", "_law_rules", "_law_sorts_here", "_law_blanks_here"], [.sh, .sh, .sh, .sh], b__law_asked_k24⟩

def b__law_filling : S := (.seq (.asg 4 true .dic0)
    (.seq (.for (.one 5) .seq (.call "_law_blanks_of" (.cons (.var 1) .nil)) .nix
    (.seq (.setI 4 (.var 5) (.call "_law_term" (.cons (.lc [("_law_k", 6)] (.one 6) .rng (.lit (.int 3)) .nix (.lit (.bl true)) (.call "_law_take" (.cons (.mut 0) (.cons (.lit (.int 4800)) .nil)))) (.cons (.var 2) (.cons (.var 3) (.cons (.lit (.int 3)) .nil))))))
    .skip))
    (.seq (.ret (.mv 4))
    .skip)))
def f__law_filling : Fn := ⟨"_law_filling", ["_law_purse_here", "_law_term_here", "_law_sorts_here", "_law_blanks_here", "_law_filling_here", "_law_blank", "_law_k"], [.mu, .sh, .sh, .sh], b__law_filling⟩

def b__law_good_k24 : S := (.seq (.asg 5 false (.call "steps" (.cons (.var 0) (.cons (.var 1) .nil))))
    (.seq (.asg 6 false (.call "steps" (.cons (.var 0) (.cons (.call "_law_filled" (.cons (.var 1) (.cons (.var 2) .nil))) .nil))))
    (.seq (.for (.many [9, 10, 11]) .seq (.var 5) .nix
    (.seq (.ite (.bin .nin (.tup (.cons (.var 9) (.cons (.var 10) (.cons (.call "_law_filled" (.cons (.var 11) (.cons (.var 2) .nil))) .nil)))) (.var 6))
    (.seq (.ret (.lit (.bl false)))
    .skip)
    .skip)
    .skip))
    (.seq (.asg 7 false (.call "steps" (.cons (.var 0) (.cons (.call "_law_put" (.cons (.var 3) (.cons (.var 4) (.cons (.var 1) .nil)))) .nil))))
    (.seq (.asg 8 false (.lc [("_law_one", 12)] (.one 12) .seq (.var 7) .nix (.bin .eq (.sl (.bin .idx (.var 12) (.lit (.int 0))) .nix (.un .len (.var 4))) (.var 4)) (.var 12)))
    (.seq (.ret (.bin .eq (.var 8) (.lc [("_law_at", 9), ("_law_k", 10), ("_law_made", 11)] (.many [9, 10, 11]) .seq (.var 5) .nix (.lit (.bl true)) (.tup (.cons (.bin .add (.var 4) (.var 9)) (.cons (.var 10) (.cons (.call "_law_put" (.cons (.var 3) (.cons (.var 4) (.cons (.var 11) .nil)))) .nil)))))))
    .skip))))))
def f__law_good_k24 : Fn := ⟨"_law_good", ["_law_rules", "_law_term_here", "_law_filling_here", "_law_other", "_law_place", "_law_row", "_law_full", "_law_wide", "_law_there", "_law_at", "_law_k", "_law_made", "_law_one"], [.sh, .sh, .sh, .sh, .sh], b__law_good_k24⟩

def b_law_k24 : S := (.seq (.asg 1 false (.call "_law_sorts" (.cons (.call "_law_cell" (.cons (.var 0) (.cons (.lit (.int 0)) .nil))) .nil)))
    (.seq (.asg 2 false (.call "_law_blanks" (.cons (.call "_law_cell" (.cons (.var 0) (.cons (.lit (.int 1)) .nil))) .nil)))
    (.seq (.asg 3 false (.bin .add (.lit (.int 1)) (.bin .mod (.call "_law_cell" (.cons (.var 0) (.cons (.lit (.int 2)) .nil))) (.lit (.int 4)))))
    (.seq (.asg 4 false (.lc [("_law_k", 6)] (.one 6) .rng (.var 3) .nix (.lit (.bl true)) (.call "_law_rule" (.cons (.call "_law_cell" (.cons (.var 0) (.cons (.bin .add (.lit (.int 3)) (.var 6)) .nil))) (.cons (.var 1) (.cons (.var 2) .nil))))))
    (.seq (.asg 5 false (.bin .add (.bin .add (.lst (.cons (.lit (.int 0)) (.cons (.lit (.int 1)) (.cons (.lit (.int 3)) (.cons (.lit (.int 5)) .nil))))) (.sl (.var 0) (.lit (.int 7)) (.lit (.int 20)))) (.lst (.cons (.lit (.int 7)) (.cons (.lit (.int 9)) .nil)))))
    (.seq (.for (.one 6) .rng (.bin .sub (.un .len (.var 5)) (.lit (.int 2))) .nix
    (.seq (.asg 7 false (.call "_law_asked" (.cons (.bin .idx (.var 5) (.var 6)) (.cons (.var 4) (.cons (.var 1) (.cons (.var 2) .nil))))))
    (.seq (.asg 8 false (.call "_law_term" (.cons (.call "_law_stream" (.cons (.bin .idx (.var 5) (.bin .add (.var 6) (.lit (.int 1)))) (.cons (.lit (.int 12)) .nil))) (.cons (.var 1) (.cons (.var 2) (.cons (.lit (.int 6)) .nil))))))
    (.seq (.asg 9 false (.call "_law_places" (.cons (.var 8) .nil)))
    (.seq (.asg 10 true (.call "_law_purse" (.cons (.bin .idx (.var 5) (.bin .add (.var 6) (.lit (.int 2)))) .nil)))
    (.seq (.asg 11 false (.bin .idx (.var 9) (.call "_law_take" (.cons (.mut 10) (.cons (.un .len (.var 9)) .nil)))))
    (.seq (.asg 12 false (.call "_law_filling" (.cons (.mut 10) (.cons (.var 7) (.cons (.var 1) (.cons (.var 2) .nil))))))
    (.seq (.ite (.not (.call "_law_good" (.cons (.var 4) (.cons (.var 7) (.cons (.var 12) (.cons (.var 8) (.cons (.var 11) .nil)))))))
    (.seq (.ret (.lit (.bl false)))
    .skip)
    .skip)
    .skip))))))))
    (.seq (.ret (.lit (.bl true)))
    .skip)))))))
def f_law_k24 : Fn := ⟨"law", ["_law_script", "_law_sorts_here", "_law_blanks_here", "_law_many", "_law_rules", "_law_cells", "_law_k", "_law_term_here", "_law_other", "_law_places_here", "_law_purse_here", "_law_place", "_law_filling_here"], [.sh], b_law_k24⟩

def b_above_by : S := (.seq (.ite (.un (.isK .str) (.var 1))
    (.seq (.ret (.lit (.bl false)))
    .skip)
    .skip)
    (.seq (.ite (.un (.isK .str) (.var 2))
    (.seq (.ret (.bin .inn (.var 2) (.call "blanks_of" (.cons (.var 1) .nil))))
    .skip)
    .skip)
    (.seq (.asg 4 false (.tup (.cons (.var 1) (.cons (.var 2) .nil))))
    (.seq (.ite (.bin .nin (.var 4) (.own 3))
    (.seq (.setI 3 (.var 4) (.call "found_above" (.cons (.var 0) (.cons (.var 1) (.cons (.var 2) (.cons (.mut 3) .nil))))))
    .skip)
    .skip)
    (.seq (.ret (.bin .idx (.own 3) (.var 4)))
    .skip)))))
def f_above_by : Fn := ⟨"above_by", ["rank", "one", "other", "known", "key"], [.sh, .sh, .sh, .mu], b_above_by⟩

def b_found_above : S := (.seq (.for (.one 4) .seq (.sl (.var 1) (.lit (.int 1)) .nix) .nix
    (.seq (.ite (.or (.bin .eq (.var 4) (.var 2)) (.one (.call "above_by" (.cons (.var 0) (.cons (.var 4) (.cons (.var 2) (.cons (.mut 3) .nil)))))))
    (.seq (.ret (.lit (.bl true)))
    .skip)
    .skip)
    .skip))
    (.seq (.ite (.bin .lt (.bin .index (.var 0) (.bin .idx (.var 1) (.lit (.int 0)))) (.bin .index (.var 0) (.bin .idx (.var 2) (.lit (.int 0)))))
    (.seq (.ret (.lit (.bl false)))
    .skip)
    .skip)
    (.seq (.for (.one 4) .seq (.sl (.var 2) (.lit (.int 1)) .nix) .nix
    (.seq (.ite (.not (.call "above_by" (.cons (.var 0) (.cons (.var 1) (.cons (.var 4) (.cons (.mut 3) .nil))))))
    (.seq (.ret (.lit (.bl false)))
    .skip)
    .skip)
    .skip))
    (.seq (.ite (.bin .ne (.bin .idx (.var 1) (.lit (.int 0))) (.bin .idx (.var 2) (.lit (.int 0))))
    (.seq (.ret (.lit (.bl true)))
    .skip)
    .skip)
    (.seq (.for (.many [5, 6]) .zip (.sl (.var 1) (.lit (.int 1)) .nix) (.sl (.var 2) (.lit (.int 1)) .nix)
    (.seq (.ite (.bin .ne (.var 5) (.var 6))
    (.seq (.ret (.call "above_by" (.cons (.var 0) (.cons (.var 5) (.cons (.var 6) (.cons (.mut 3) .nil))))))
    .skip)
    .skip)
    .skip))
    (.seq (.ret (.lit (.bl false)))
    .skip))))))
def f_found_above : Fn := ⟨"found_above", ["rank", "one", "other", "known", "part", "left", "right"], [.sh, .sh, .sh, .mu], b_found_above⟩

def b_above : S := (.seq (.ret (.call "above_by" (.cons (.var 0) (.cons (.var 1) (.cons (.var 2) (.cons .dic0 .nil))))))
    .skip)
def f_above : Fn := ⟨"above", ["rank", "one", "other"], [.sh, .sh, .sh], b_above⟩

def b__law_signs_k31 : S := (.seq (.asg 1 false (.lit (.str "abcdefghijklmnopqrstuvwxyz")))
    (.seq (.asg 2 false (.bin .mod (.var 0) (.lit (.int 2147483629))))
    (.seq (.asg 3 false (.bin .add (.lit (.int 1)) (.bin .mod (.var 2) (.lit (.int 8)))))
    (.seq (.asg 4 false (.bin .mod (.bin .fdiv (.var 2) (.lit (.int 8))) (.var 3)))
    (.seq (.asg 5 true (.lst .nil))
    (.seq (.for (.one 6) .rng (.lit (.int 4)) .nix
    (.seq (.asg 7 false (.lit (.str "")))
    (.seq (.for (.one 8) .rng (.var 3) .nix
    (.seq (.asg 9 false (.bin .add (.bin .add (.bin .fdiv (.var 2) (.bin .add (.var 8) (.lit (.int 3)))) (.bin .mul (.var 8) (.var 8))) (.bin .mul (.un .int (.bin .eq (.var 8) (.var 4))) (.var 6))))
    (.seq (.asg 7 false (.bin .add (.var 7) (.bin .idx (.var 1) (.bin .mod (.var 9) (.lit (.int 26))))))
    .skip)))
    (.seq (.app 5 (.tup (.cons (.var 7) (.cons (.bin .idx (.lst (.cons (.lit (.int 0)) (.cons (.lit (.int 1)) (.cons (.lit (.int 2)) (.cons (.bin .mod (.bin .fdiv (.var 2) (.lit (.int 64))) (.lit (.int 4))) .nil))))) (.var 6)) .nil))))
    .skip))))
    (.seq (.ret (.mv 5))
    .skip)))))))
def f__law_signs_k31 : Fn := ⟨"_law_signs", ["_law_cell_here", "_law_letters", "_law_number_here", "_law_long", "_law_at", "_law_found", "_law_k", "_law_word", "_law_j", "_law_place"], [.sh], b__law_signs_k31⟩

def b__law_term_k31 : S := (.seq (.asg 4 false (.bin .add (.un .len (.var 2)) (.un .len (.var 3))))
    (.seq (.asg 5 false (.bin .mod (.var 0) (.var 4)))
    (.seq (.asg 0 false (.bin .fdiv (.var 0) (.var 4)))
    (.seq (.ite (.bin .lt (.var 5) (.un .len (.var 3)))
    (.seq (.ret (.lst (.cons (.bin .idx (.var 3) (.var 5)) (.cons (.var 0) .nil))))
    .skip)
    .skip)
    (.seq (.asgT [8, 9] (.bin .idx (.var 2) (.bin .sub (.var 5) (.un .len (.var 3)))))
    (.seq (.ite (.and (.bin .eq (.var 1) (.lit (.int 0))) (.one (.bin .gt (.var 9) (.lit (.int 0)))))
    (.seq (.ret (.lst (.cons (.tup (.cons (.bin .idx (.bin .idx (.var 2) (.lit (.int 0))) (.lit (.int 0))) .nil)) (.cons (.var 0) .nil))))
    .skip)
    .skip)
    (.seq (.asg 6 true (.lst .nil))
    (.seq (.for (.one 7) .rng (.var 9) .nix
    (.seq (.asgT [10, 0] (.call "_law_term" (.cons (.var 0) (.cons (.bin .sub (.var 1) (.lit (.int 1))) (.cons (.var 2) (.cons (.var 3) .nil))))))
    (.seq (.app 6 (.var 10))
    .skip)))
    (.seq (.ret (.lst (.cons (.bin .add (.tup (.cons (.var 8) .nil)) (.un .tuple (.own 6))) (.cons (.var 0) .nil))))
    .skip)))))))))
def f__law_term_k31 : Fn := ⟨"_law_term", ["_law_number_here", "_law_nest", "_law_signs_here", "_law_blanks_here", "_law_many", "_law_pick", "_law_parts", "_law_k", "_law_sign", "_law_count", "_law_part"], [.sh, .sh, .sh, .sh], b__law_term_k31⟩

def b__law_number : S := (.seq (.ite (.bin .eq (.bin .mod (.var 0) (.lit (.int 3))) (.lit (.int 0)))
    (.seq (.ret (.bin .mod (.bin .fdiv (.var 0) (.lit (.int 3))) (.bin .pow (.lit (.int 10)) (.lit (.int 60)))))
    .skip)
    .skip)
    (.seq (.ret (.bin .mod (.bin .mul (.bin .fdiv (.var 0) (.lit (.int 3))) (.lit (.int 27182818284590452353602874713526624977572470936999595749669))) (.bin .pow (.lit (.int 10)) (.lit (.int 60)))))
    .skip))
def f__law_number : Fn := ⟨"_law_number", ["_law_cell_here"], [.sh], b__law_number⟩

def b__law_blanks_k31 : S := (.seq (.ite (.un (.isK .str) (.var 0))
    (.seq (.ret (.lst (.cons (.var 0) .nil)))
    .skip)
    .skip)
    (.seq (.asg 1 true (.lst .nil))
    (.seq (.for (.one 2) .seq (.sl (.var 0) (.lit (.int 1)) .nix) .nix
    (.seq (.for (.one 3) .seq (.call "_law_blanks" (.cons (.var 2) .nil)) .nix
    (.seq (.ite (.bin .nin (.var 3) (.own 1))
    (.seq (.app 1 (.var 3))
    .skip)
    .skip)
    .skip))
    .skip))
    (.seq (.ret (.mv 1))
    .skip))))
def f__law_blanks_k31 : Fn := ⟨"_law_blanks", ["_law_term_here", "_law_found", "_law_part", "_law_blank"], [.sh], b__law_blanks_k31⟩

def b__law_above : S := (.seq (.ite (.un (.isK .str) (.var 1))
    (.seq (.ret (.lit (.bl false)))
    .skip)
    .skip)
    (.seq (.ite (.un (.isK .str) (.var 2))
    (.seq (.ret (.bin .inn (.var 2) (.call "_law_blanks" (.cons (.var 1) .nil))))
    .skip)
    .skip)
    (.seq (.for (.one 3) .seq (.sl (.var 1) (.lit (.int 1)) .nix) .nix
    (.seq (.ite (.or (.bin .eq (.var 3) (.var 2)) (.one (.call "_law_above" (.cons (.var 0) (.cons (.var 3) (.cons (.var 2) .nil))))))
    (.seq (.ret (.lit (.bl true)))
    .skip)
    .skip)
    .skip))
    (.seq (.asg 4 false (.bin .sub (.bin .index (.var 0) (.bin .idx (.var 1) (.lit (.int 0)))) (.bin .index (.var 0) (.bin .idx (.var 2) (.lit (.int 0))))))
    (.seq (.ite (.bin .lt (.var 4) (.lit (.int 0)))
    (.seq (.ret (.lit (.bl false)))
    .skip)
    .skip)
    (.seq (.for (.one 3) .seq (.sl (.var 2) (.lit (.int 1)) .nix) .nix
    (.seq (.ite (.not (.call "_law_above" (.cons (.var 0) (.cons (.var 1) (.cons (.var 3) .nil)))))
    (.seq (.ret (.lit (.bl false)))
    .skip)
    .skip)
    .skip))
    (.seq (.ite (.bin .gt (.var 4) (.lit (.int 0)))
    (.seq (.ret (.lit (.bl true)))
    .skip)
    .skip)
    (.seq (.for (.many [5, 6]) .zip (.sl (.var 1) (.lit (.int 1)) .nix) (.sl (.var 2) (.lit (.int 1)) .nix)
    (.seq (.ite (.bin .ne (.var 5) (.var 6))
    (.seq (.ret (.call "_law_above" (.cons (.var 0) (.cons (.var 5) (.cons (.var 6) .nil)))))
    .skip)
    .skip)
    .skip))
    (.seq (.ret (.lit (.bl false)))
    .skip)))))))))
def f__law_above : Fn := ⟨"_law_above", ["_law_rank", "_law_one_here", "_law_other", "_law_part", "_law_high", "_law_left", "_law_right"], [.sh, .sh, .sh], b__law_above⟩

def b__law_size : S := (.seq (.ite (.un (.isK .str) (.var 0))
    (.seq (.ret (.lit (.int 1)))
    .skip)
    .skip)
    (.seq (.ret (.bin .add (.lit (.int 1)) (.un .sum (.lc [("_law_part", 1)] (.one 1) .seq (.sl (.var 0) (.lit (.int 1)) .nix) .nix (.lit (.bl true)) (.call "_law_size" (.cons (.var 1) .nil))))))
    .skip))
def f__law_size : Fn := ⟨"_law_size", ["_law_term_here", "_law_part"], [.sh], b__law_size⟩

def b__law_order : S := (.seq (.asg 2 true (.lc [("_law_sign", 4), ("_law_count", 5)] (.many [4, 5]) .seq (.var 1) .nix (.lit (.bl true)) (.var 4)))
    (.seq (.asg 3 true (.lst .nil))
    (.seq (.wh 1000 (.bin .ne (.own 2) (.lst .nil))
    (.seq (.app 3 (.popAt 2 (.bin .mod (.var 0) (.un .len (.own 2)))))
    (.seq (.asg 0 false (.bin .fdiv (.var 0) (.bin .add (.un .len (.own 2)) (.lit (.int 1)))))
    .skip)))
    (.seq (.ret (.mv 3))
    .skip))))
def f__law_order : Fn := ⟨"_law_order", ["_law_cell_here", "_law_signs_here", "_law_left", "_law_found", "_law_sign", "_law_count"], [.sh, .sh], b__law_order⟩

def b__law_one : S := (.seq (.asg 2 false (.bin .idx (.call "_law_term" (.cons (.call "_law_number" (.cons (.var 0) .nil)) (.cons (.lit (.int 3)) (.cons (.var 1) (.cons (.lst (.cons (.lit (.str "A")) (.cons (.lit (.str "B")) (.cons (.lit (.str "X")) .nil)))) .nil))))) (.lit (.int 0))))
    (.seq (.ite (.bin .gt (.call "_law_size" (.cons (.var 2) .nil)) (.lit (.int 12)))
    (.seq (.ret (.tup (.cons (.bin .idx (.bin .idx (.var 1) (.lit (.int 1))) (.lit (.int 0))) (.cons (.lit (.str "A")) .nil))))
    .skip)
    .skip)
    (.seq (.ret (.var 2))
    .skip)))
def f__law_one : Fn := ⟨"_law_one", ["_law_cell_here", "_law_signs_here", "_law_found"], [.sh, .sh], b__law_one⟩

def b__law_near : S := (.seq (.ite (.or (.un (.isK .str) (.var 0)) (.or (.bin .eq (.un .len (.var 0)) (.lit (.int 1))) (.one (.bin .eq (.bin .mod (.var 1) (.lit (.int 3))) (.lit (.int 0))))))
    (.seq (.ret (.bin .idx (.lst (.cons (.tup (.cons (.bin .idx (.bin .idx (.var 2) (.lit (.int 0))) (.lit (.int 0))) .nil)) (.cons (.lit (.str "A")) (.cons (.lit (.str "X")) .nil)))) (.bin .mod (.bin .fdiv (.var 1) (.lit (.int 3))) (.lit (.int 3)))))
    .skip)
    .skip)
    (.seq (.asg 3 false (.bin .add (.lit (.int 1)) (.bin .mod (.bin .fdiv (.var 1) (.lit (.int 3))) (.bin .sub (.un .len (.var 0)) (.lit (.int 1))))))
    (.seq (.asg 4 false (.call "_law_near" (.cons (.bin .idx (.var 0) (.var 3)) (.cons (.bin .fdiv (.var 1) (.lit (.int 9))) (.cons (.var 2) .nil)))))
    (.seq (.ret (.bin .add (.bin .add (.sl (.var 0) .nix (.var 3)) (.tup (.cons (.var 4) .nil))) (.sl (.var 0) (.bin .add (.var 3) (.lit (.int 1))) .nix)))
    .skip))))
def f__law_near : Fn := ⟨"_law_near", ["_law_term_here", "_law_cell_here", "_law_signs_here", "_law_at", "_law_near_here"], [.sh, .sh, .sh], b__law_near⟩

def b__law_good_k31 : S := (.seq (.asg 3 false (.call "above" (.cons (.var 0) (.cons (.var 1) (.cons (.var 2) .nil)))))
    (.seq (.ret (.and (.un (.isK .bl) (.var 3)) (.one (.bin .eq (.var 3) (.call "_law_above" (.cons (.var 0) (.cons (.var 1) (.cons (.var 2) .nil))))))))
    .skip))
def f__law_good_k31 : Fn := ⟨"_law_good", ["_law_rank", "_law_one_here", "_law_other", "_law_found"], [.sh, .sh, .sh], b__law_good_k31⟩

def b_law_k31 : S := (.seq (.asg 1 false (.call "_law_signs" (.cons (.call "_law_cell" (.cons (.var 0) (.cons (.lit (.int 0)) .nil))) .nil)))
    (.seq (.asg 2 false (.call "_law_order" (.cons (.call "_law_cell" (.cons (.var 0) (.cons (.lit (.int 1)) .nil))) (.cons (.var 1) .nil))))
    (.seq (.asg 3 false (.un .list (.var 2)))
    (.seq (.asg 4 false (.tup (.cons (.bin .idx (.bin .idx (.var 1) (.lit (.int 2))) (.lit (.int 0))) (.cons (.lit (.str "A")) (.cons (.tup (.cons (.bin .idx (.bin .idx (.var 1) (.lit (.int 1))) (.lit (.int 0))) (.cons (.lit (.str "B")) .nil))) .nil)))))
    (.seq (.asg 5 false (.var 4))
    (.seq (.for (.one 6) .seq (.sl (.var 0) (.lit (.int 2)) (.lit (.int 18))) .nix
    (.seq (.asg 7 false (.call "_law_one" (.cons (.var 6) (.cons (.var 1) .nil))))
    (.seq (.asg 8 false (.call "_law_near" (.cons (.var 7) (.cons (.bin .fdiv (.var 6) (.lit (.int 5))) (.cons (.var 1) .nil)))))
    (.seq (.for (.one 9) .seq (.lst (.cons (.var 5) (.cons (.var 4) (.cons (.var 8) (.cons (.var 7) .nil))))) .nix
    (.seq (.ite (.or (.not (.call "_law_good" (.cons (.var 3) (.cons (.var 7) (.cons (.var 9) .nil))))) (.one (.not (.call "_law_good" (.cons (.var 3) (.cons (.var 9) (.cons (.var 7) .nil)))))))
    (.seq (.ret (.lit (.bl false)))
    .skip)
    .skip)
    .skip))
    (.seq (.asg 5 false (.var 7))
    .skip)))))
    (.seq (.ret (.and (.call "_law_good" (.cons (.var 3) (.cons (.var 4) (.cons (.lit (.str "A")) .nil)))) (.one (.bin .eq (.var 3) (.var 2)))))
    .skip)))))))
def f_law_k31 : Fn := ⟨"law", ["_law_script", "_law_signs_here", "_law_rank", "_law_handed", "_law_first", "_law_last", "_law_cell_here", "_law_term_here", "_law_near_here", "_law_beside"], [.sh], b_law_k31⟩

def b__law_term_k32 : S := (.seq (.asg 4 false (.bin .add (.un .len (.var 2)) (.un .len (.var 3))))
    (.seq (.asg 5 false (.bin .mod (.var 0) (.var 4)))
    (.seq (.asg 0 false (.bin .fdiv (.var 0) (.var 4)))
    (.seq (.ite (.bin .lt (.var 5) (.un .len (.var 3)))
    (.seq (.ret (.lst (.cons (.bin .idx (.var 3) (.var 5)) (.cons (.var 0) .nil))))
    .skip)
    .skip)
    (.seq (.asgT [8, 9] (.bin .idx (.var 2) (.bin .sub (.var 5) (.un .len (.var 3)))))
    (.seq (.ite (.and (.bin .eq (.var 1) (.lit (.int 0))) (.one (.bin .gt (.var 9) (.lit (.int 0)))))
    (.seq (.ret (.lst (.cons (.tup (.cons (.bin .idx (.bin .idx (.var 2) (.lit (.int 0))) (.lit (.int 0))) .nil)) (.cons (.var 0) .nil))))
    .skip)
    .skip)
    (.seq (.asg 6 true (.lst .nil))
    (.seq (.for (.one 7) .rng (.var 9) .nix
    (.seq (.asgT [10, 0] (.call "_law_term" (.cons (.var 0) (.cons (.bin .sub (.var 1) (.lit (.int 1))) (.cons (.var 2) (.cons (.var 3) .nil))))))
    (.seq (.app 6 (.var 10))
    .skip)))
    (.seq (.ret (.lst (.cons (.bin .add (.tup (.cons (.var 8) .nil)) (.un .tuple (.own 6))) (.cons (.var 0) .nil))))
    .skip)))))))))
def f__law_term_k32 : Fn := ⟨"_law_term", ["_law_number_here", "_law_nest", "_law_signs_here", "_law_blanks_here", "_law_many", "_law_pick", "_law_parts_here", "_law_k", "_law_sign", "_law_count", "_law_part"], [.sh, .sh, .sh, .sh], b__law_term_k32⟩

def b__law_filled_k32 : S := (.seq (.ite (.un (.isK .str) (.var 0))
    (.seq (.ret (.get (.var 1) (.var 0) (.var 0)))
    .skip)
    .skip)
    (.seq (.ret (.bin .add (.tup (.cons (.bin .idx (.var 0) (.lit (.int 0))) .nil)) (.un .tuple (.lc [("_law_part", 2)] (.one 2) .seq (.sl (.var 0) (.lit (.int 1)) .nix) .nix (.lit (.bl true)) (.call "_law_filled" (.cons (.var 2) (.cons (.var 1) .nil)))))))
    .skip))
def f__law_filled_k32 : Fn := ⟨"_law_filled", ["_law_term_here", "_law_filling", "_law_part"], [.sh, .sh], b__law_filled_k32⟩

def b__law_one_k32 : S := (.seq (.asg 2 false (.bin .idx (.call "_law_term" (.cons (.call "_law_number" (.cons (.var 0) .nil)) (.cons (.lit (.int 3)) (.cons (.var 1) (.cons (.lst (.cons (.lit (.str "A")) (.cons (.lit (.str "B")) (.cons (.lit (.str "X")) .nil)))) .nil))))) (.lit (.int 0))))
    (.seq (.ite (.bin .gt (.call "_law_size" (.cons (.var 2) .nil)) (.lit (.int 8)))
    (.seq (.ret (.tup (.cons (.bin .idx (.bin .idx (.var 1) (.lit (.int 1))) (.lit (.int 0))) (.cons (.lit (.str "A")) .nil))))
    .skip)
    .skip)
    (.seq (.ret (.var 2))
    .skip)))
def f__law_one_k32 : Fn := ⟨"_law_one", ["_law_cell_here", "_law_signs_here", "_law_found"], [.sh, .sh], b__law_one_k32⟩

def b__law_pair : S := (.seq (.asg 5 false (.call "above" (.cons (.var 0) (.cons (.var 1) (.cons (.var 2) .nil)))))
    (.seq (.asg 6 false (.call "above" (.cons (.var 0) (.cons (.var 2) (.cons (.var 1) .nil)))))
    (.seq (.ite (.or (.and (.var 5) (.one (.var 6))) (.one (.and (.bin .eq (.var 1) (.var 2)) (.one (.var 5)))))
    (.seq (.ret (.lit (.bl false)))
    .skip)
    .skip)
    (.seq (.asg 7 false (.and (.bin .eq (.call "_law_blanks" (.cons (.var 1) .nil)) (.lst .nil)) (.one (.bin .eq (.call "_law_blanks" (.cons (.var 2) .nil)) (.lst .nil)))))
    (.seq (.ite (.and (.var 7) (.and (.bin .ne (.var 1) (.var 2)) (.and (.not (.var 5)) (.one (.not (.var 6))))))
    (.seq (.ret (.lit (.bl false)))
    .skip)
    .skip)
    (.seq (.ret (.or (.not (.var 5)) (.one (.call "_law_kept" (.cons (.var 0) (.cons (.var 1) (.cons (.var 2) (.cons (.var 3) (.cons (.var 4) .nil)))))))))
    .skip))))))
def f__law_pair : Fn := ⟨"_law_pair", ["_law_rank", "_law_one_here", "_law_other", "_law_signs_here", "_law_cell_here", "_law_here", "_law_there", "_law_ground"], [.sh, .sh, .sh, .sh, .sh], b__law_pair⟩

def b__law_parts : S := (.seq (.ite (.un (.isK .str) (.var 1))
    (.seq (.ret (.not (.call "above" (.cons (.var 0) (.cons (.var 1) (.cons (.var 1) .nil))))))
    .skip)
    .skip)
    (.seq (.ret (.bin .eq (.un .len (.lc [("_law_part", 2)] (.one 2) .seq (.sl (.var 1) (.lit (.int 1)) .nix) .nix (.not (.call "above" (.cons (.var 0) (.cons (.var 1) (.cons (.var 2) .nil))))) (.var 2))) (.lit (.int 0))))
    .skip))
def f__law_parts : Fn := ⟨"_law_parts", ["_law_rank", "_law_term_here", "_law_part"], [.sh, .sh], b__law_parts⟩

def b_law_k32 : S := (.seq (.asg 1 false (.call "_law_signs" (.cons (.call "_law_cell" (.cons (.var 0) (.cons (.lit (.int 0)) .nil))) .nil)))
    (.seq (.asg 2 false (.call "_law_order" (.cons (.call "_law_cell" (.cons (.var 0) (.cons (.lit (.int 1)) .nil))) (.cons (.var 1) .nil))))
    (.seq (.asg 3 false (.lst (.cons (.tup (.cons (.bin .idx (.bin .idx (.var 1) (.lit (.int 2))) (.lit (.int 0))) (.cons (.lit (.str "A")) (.cons (.lit (.str "B")) .nil)))) (.cons (.tup (.cons (.bin .idx (.bin .idx (.var 1) (.lit (.int 1))) (.lit (.int 0))) (.cons (.lit (.str "A")) .nil))) (.cons (.lit (.str "A")) .nil)))))
    (.seq (.for (.one 4) .seq (.sl (.var 0) (.lit (.int 2)) (.lit (.int 26))) .nix
    (.seq (.asg 5 false (.call "_law_one" (.cons (.var 4) (.cons (.var 1) .nil))))
    (.seq (.ite (.or (.not (.call "_law_parts" (.cons (.var 2) (.cons (.var 5) .nil)))) (.one (.call "above" (.cons (.var 2) (.cons (.var 5) (.cons (.var 5) .nil))))))
    (.seq (.ret (.lit (.bl false)))
    .skip)
    .skip)
    (.seq (.for (.one 6) .seq (.var 3) .nix
    (.seq (.ite (.or (.not (.call "_law_pair" (.cons (.var 2) (.cons (.var 5) (.cons (.var 6) (.cons (.var 1) (.cons (.var 4) .nil))))))) (.one (.not (.call "_law_pair" (.cons (.var 2) (.cons (.var 6) (.cons (.var 5) (.cons (.var 1) (.cons (.var 4) .nil)))))))))
    (.seq (.ret (.lit (.bl false)))
    .skip)
    .skip)
    .skip))
    (.seq (.asgT [7, 8] (.sl (.var 3) (.lit (.int 1)) .nix))
    (.seq (.for (.many [9, 10, 11]) .seq (.lst (.cons (.tup (.cons (.var 7) (.cons (.var 8) (.cons (.var 5) .nil)))) (.cons (.tup (.cons (.var 5) (.cons (.var 7) (.cons (.var 8) .nil)))) (.cons (.tup (.cons (.var 8) (.cons (.var 5) (.cons (.var 7) .nil)))) (.cons (.tup (.cons (.var 7) (.cons (.var 5) (.cons (.var 8) .nil)))) .nil))))) .nix
    (.seq (.ite (.and (.call "above" (.cons (.var 2) (.cons (.var 9) (.cons (.var 10) .nil)))) (.and (.call "above" (.cons (.var 2) (.cons (.var 10) (.cons (.var 11) .nil)))) (.one (.not (.call "above" (.cons (.var 2) (.cons (.var 9) (.cons (.var 11) .nil))))))))
    (.seq (.ret (.lit (.bl false)))
    .skip)
    .skip)
    .skip))
    (.seq (.asg 3 false (.lst (.cons (.var 7) (.cons (.var 8) (.cons (.var 5) .nil)))))
    .skip)))))))
    (.seq (.ret (.lit (.bl true)))
    .skip)))))
def f_law_k32 : Fn := ⟨"law", ["_law_script", "_law_signs_here", "_law_rank", "_law_last", "_law_cell_here", "_law_term_here", "_law_other", "_law_one_here", "_law_two", "_law_left", "_law_amid", "_law_right"], [.sh], b_law_k32⟩

def b_goes_down : S := (.seq (.ret (.un .all (.lc [("left", 2), ("right", 3)] (.many [2, 3]) .seq (.var 1) .nix (.lit (.bl true)) (.call "above" (.cons (.var 0) (.cons (.var 2) (.cons (.var 3) .nil)))))))
    .skip)
def f_goes_down : Fn := ⟨"goes_down", ["rank", "rules", "left", "right"], [.sh, .sh], b_goes_down⟩

def b_sides_of : S := (.seq (.asg 1 true (.lst .nil))
    (.seq (.for (.many [2, 3]) .seq (.var 0) .nix
    (.seq (.app 1 (.var 2))
    (.seq (.app 1 (.var 3))
    .skip)))
    (.seq (.ret (.mv 1))
    .skip)))
def f_sides_of : Fn := ⟨"sides_of", ["rules", "found", "left", "right"], [.sh], b_sides_of⟩

def b_rank_by : S := (.seq (.ite (.bin .eq (.var 2) (.lst .nil))
    (.seq (.ite (.call "goes_down" (.cons (.var 1) (.cons (.var 0) .nil)))
    (.seq (.ret (.var 1))
    .skip)
    .skip)
    (.seq (.ret (.lit .non))
    .skip))
    .skip)
    (.seq (.for (.one 3) .seq (.var 2) .nix
    (.seq (.asg 4 false (.call "rank_by" (.cons (.var 0) (.cons (.bin .add (.var 1) (.lst (.cons (.var 3) .nil))) (.cons (.lc [("other", 5)] (.one 5) .seq (.var 2) .nix (.bin .ne (.var 5) (.var 3)) (.var 5)) .nil)))))
    (.seq (.ite (.un .notNone (.var 4))
    (.seq (.ret (.var 4))
    .skip)
    .skip)
    .skip)))
    (.seq (.ret (.lit .non))
    .skip)))
def f_rank_by : Fn := ⟨"rank_by", ["rules", "rank", "left", "sign", "found", "other"], [.sh, .sh, .sh], b_rank_by⟩

def b_rank_of : S := (.seq (.ex (.call "must_rules" (.cons (.var 0) (.cons (.lst .nil) .nil))))
    (.seq (.ret (.call "rank_by" (.cons (.var 0) (.cons (.lst .nil) (.cons (.call "signs_of" (.cons (.call "sides_of" (.cons (.var 0) .nil)) .nil)) .nil)))))
    .skip))
def f_rank_of : Fn := ⟨"rank_of", ["rules"], [.sh], b_rank_of⟩

def b__law_menu : S := (.seq (.asg 2 false (.tup (.cons (.bin .idx (.bin .idx (.var 0) (.lit (.int 0))) (.lit (.int 0))) .nil)))
    (.seq (.asg 3 false (.bin .idx (.bin .idx (.var 0) (.lit (.int 1))) (.lit (.int 0))))
    (.seq (.asg 4 false (.bin .idx (.bin .idx (.var 0) (.lit (.int 2))) (.lit (.int 0))))
    (.seq (.asg 5 false (.lst (.cons (.tup (.cons (.tup (.cons (.var 4) (.cons (.tup (.cons (.var 4) (.cons (.lit (.str "X")) (.cons (.lit (.str "Y")) .nil)))) (.cons (.lit (.str "Z")) .nil)))) (.cons (.tup (.cons (.var 4) (.cons (.lit (.str "X")) (.cons (.tup (.cons (.var 4) (.cons (.lit (.str "Y")) (.cons (.lit (.str "Z")) .nil)))) .nil)))) .nil))) (.cons (.tup (.cons (.tup (.cons (.var 4) (.cons (.var 2) (.cons (.lit (.str "X")) .nil)))) (.cons (.lit (.str "X")) .nil))) (.cons (.tup (.cons (.tup (.cons (.var 4) (.cons (.lit (.str "X")) (.cons (.var 2) .nil)))) (.cons (.lit (.str "X")) .nil))) .nil)))))
    (.seq (.asg 5 false (.bin .add (.var 5) (.lst (.cons (.tup (.cons (.tup (.cons (.var 3) (.cons (.tup (.cons (.var 3) (.cons (.lit (.str "X")) .nil))) .nil))) (.cons (.lit (.str "X")) .nil))) (.cons (.tup (.cons (.tup (.cons (.var 3) (.cons (.var 2) .nil))) (.cons (.var 2) .nil))) (.cons (.tup (.cons (.tup (.cons (.var 3) (.cons (.tup (.cons (.var 4) (.cons (.lit (.str "X")) (.cons (.lit (.str "Y")) .nil)))) .nil))) (.cons (.tup (.cons (.var 4) (.cons (.tup (.cons (.var 3) (.cons (.lit (.str "Y")) .nil))) (.cons (.tup (.cons (.var 3) (.cons (.lit (.str "X")) .nil))) .nil)))) .nil))) .nil))))))
    (.seq (.asg 5 false (.bin .add (.var 5) (.lst (.cons (.tup (.cons (.tup (.cons (.var 4) (.cons (.tup (.cons (.var 3) (.cons (.lit (.str "X")) .nil))) (.cons (.lit (.str "X")) .nil)))) (.cons (.var 2) .nil))) (.cons (.tup (.cons (.tup (.cons (.var 3) (.cons (.tup (.cons (.var 3) (.cons (.lit (.str "X")) .nil))) .nil))) (.cons (.tup (.cons (.var 3) (.cons (.lit (.str "X")) .nil))) .nil))) (.cons (.tup (.cons (.tup (.cons (.var 4) (.cons (.lit (.str "X")) (.cons (.lit (.str "X")) .nil)))) (.cons (.lit (.str "X")) .nil))) .nil))))))
    (.seq (.asg 5 false (.bin .add (.var 5) (.lst (.cons (.tup (.cons (.tup (.cons (.var 4) (.cons (.tup (.cons (.var 3) (.cons (.lit (.str "X")) .nil))) (.cons (.lit (.str "Y")) .nil)))) (.cons (.tup (.cons (.var 3) (.cons (.tup (.cons (.var 4) (.cons (.lit (.str "X")) (.cons (.lit (.str "Y")) .nil)))) .nil))) .nil))) (.cons (.tup (.cons (.tup (.cons (.var 4) (.cons (.lit (.str "X")) (.cons (.tup (.cons (.var 3) (.cons (.lit (.str "Y")) .nil))) .nil)))) (.cons (.tup (.cons (.var 3) (.cons (.tup (.cons (.var 4) (.cons (.lit (.str "X")) (.cons (.lit (.str "Y")) .nil)))) .nil))) .nil))) .nil)))))
    (.seq (.asg 5 false (.bin .add (.var 5) (.lst (.cons (.tup (.cons (.tup (.cons (.var 3) (.cons (.tup (.cons (.var 4) (.cons (.lit (.str "X")) (.cons (.lit (.str "Y")) .nil)))) .nil))) (.cons (.lit (.str "Y")) .nil))) (.cons (.tup (.cons (.tup (.cons (.var 4) (.cons (.tup (.cons (.var 4) (.cons (.lit (.str "X")) (.cons (.lit (.str "Y")) .nil)))) (.cons (.lit (.str "Y")) .nil)))) (.cons (.lit (.str "X")) .nil))) (.cons (.tup (.cons (.tup (.cons (.var 3) (.cons (.lit (.str "X")) .nil))) (.cons (.tup (.cons (.var 4) (.cons (.lit (.str "X")) (.cons (.var 2) .nil)))) .nil))) .nil))))))
    (.seq (.ret (.bin .idx (.var 5) (.bin .mod (.var 1) (.lit (.int 14)))))
    .skip)))))))))
def f__law_menu : Fn := ⟨"_law_menu", ["_law_signs_here", "_law_pick", "_law_a", "_law_f", "_law_g", "_law_some"], [.sh, .sh], b__law_menu⟩

def b__law_rule_k33 : S := (.seq (.ite (.bin .gt (.bin .mod (.var 0) (.lit (.int 3))) (.lit (.int 0)))
    (.seq (.ret (.call "_law_menu" (.cons (.var 1) (.cons (.bin .fdiv (.var 0) (.lit (.int 3))) .nil))))
    .skip)
    .skip)
    (.seq (.asgT [3, 4] (.call "_law_term" (.cons (.call "_law_number" (.cons (.bin .fdiv (.var 0) (.lit (.int 3))) .nil)) (.cons (.lit (.int 2)) (.cons (.var 1) (.cons (.lst (.cons (.lit (.str "A")) (.cons (.lit (.str "B")) (.cons (.lit (.str "X")) .nil)))) .nil))))))
    (.seq (.ite (.or (.un (.isK .str) (.var 3)) (.one (.bin .gt (.call "_law_size" (.cons (.var 3) .nil)) (.lit (.int 12)))))
    (.seq (.asg 3 false (.tup (.cons (.bin .idx (.bin .idx (.var 1) (.lit (.int 1))) (.lit (.int 0))) (.cons (.lit (.str "A")) .nil))))
    .skip)
    .skip)
    (.seq (.asg 2 false (.bin .idx (.call "_law_term" (.cons (.bin .add (.var 4) (.bin .mod (.bin .fdiv (.var 0) (.lit (.int 9))) (.lit (.int 1000)))) (.cons (.lit (.int 1)) (.cons (.var 1) (.cons (.call "_law_blanks" (.cons (.var 3) .nil)) .nil))))) (.lit (.int 0))))
    (.seq (.ret (.tup (.cons (.var 3) (.cons (.var 2) .nil))))
    .skip)))))
def f__law_rule_k33 : Fn := ⟨"_law_rule", ["_law_cell_here", "_law_signs_here", "_law_right", "_law_left", "_law_rest"], [.sh, .sh], b__law_rule_k33⟩

def b__law_told : S := (.seq (.ite (.un (.isK .str) (.var 0))
    (.seq (.ret (.bin .idx (.var 1) (.var 0)))
    .skip)
    .skip)
    (.seq (.ret (.bin .add (.tup (.cons (.bin .idx (.var 0) (.lit (.int 0))) .nil)) (.un .tuple (.lc [("_law_part", 2)] (.one 2) .seq (.sl (.var 0) (.lit (.int 1)) .nix) .nix (.lit (.bl true)) (.call "_law_told" (.cons (.var 2) (.cons (.var 1) .nil)))))))
    .skip))
def f__law_told : Fn := ⟨"_law_told", ["_law_term_here", "_law_names", "_law_part"], [.sh, .sh], b__law_told⟩

def b__law_lettered : S := (.seq (.asg 2 true (.un .list (.lit (.str "ABCDEFGHIJKLMNOPQRSTUVWXYZ"))))
    (.seq (.asg 3 true .dic0)
    (.seq (.for (.one 4) .seq (.lst (.cons (.lit (.str "X")) (.cons (.lit (.str "Y")) (.cons (.lit (.str "A")) (.cons (.lit (.str "Z")) (.cons (.lit (.str "B")) .nil)))))) .nix
    (.seq (.setI 3 (.var 4) (.popAt 2 (.bin .mod (.var 1) (.un .len (.own 2)))))
    (.seq (.asg 1 false (.bin .add (.bin .fdiv (.var 1) (.lit (.int 7))) (.lit (.int 3))))
    .skip)))
    (.seq (.ret (.tup (.cons (.call "_law_told" (.cons (.bin .idx (.var 0) (.lit (.int 0))) (.cons (.fz 3) .nil))) (.cons (.call "_law_told" (.cons (.bin .idx (.var 0) (.lit (.int 1))) (.cons (.fz 3) .nil))) .nil))))
    .skip))))
def f__law_lettered : Fn := ⟨"_law_lettered", ["_law_rule_here", "_law_cell_here", "_law_letters", "_law_names", "_law_blank"], [.sh, .sh], b__law_lettered⟩

def b__law_rules : S := (.seq (.asg 2 false (.call "_law_signs" (.cons (.call "_law_cell" (.cons (.var 0) (.cons (.lit (.int 0)) .nil))) .nil)))
    (.seq (.asg 3 false (.bin .fdiv (.bin .add (.bin .mod (.call "_law_cell" (.cons (.var 0) (.cons (.lit (.int 1)) .nil))) (.bin .add (.bin .mul (.lit (.int 8)) (.var 1)) (.lit (.int 1)))) (.lit (.int 7))) (.lit (.int 8))))
    (.seq (.asg 4 false (.lc [("_law_k", 5)] (.one 5) .rng (.var 3) .nix (.lit (.bl true)) (.call "_law_rule" (.cons (.call "_law_cell" (.cons (.var 0) (.cons (.bin .add (.lit (.int 2)) (.var 5)) .nil))) (.cons (.var 2) .nil)))))
    (.seq (.ret (.lst (.cons (.var 2) (.cons (.lc [("_law_k", 5)] (.one 5) .rng (.var 3) .nix (.lit (.bl true)) (.call "_law_lettered" (.cons (.bin .idx (.var 4) (.var 5)) (.cons (.bin .add (.bin .fdiv (.call "_law_cell" (.cons (.var 0) (.cons (.lit (.int 1)) .nil))) (.lit (.int 33))) (.bin .mul (.lit (.int 5)) (.var 5))) .nil)))) .nil))))
    .skip))))
def f__law_rules : Fn := ⟨"_law_rules", ["_law_script", "_law_most", "_law_signs_here", "_law_many", "_law_rules_here", "_law_k"], [.sh, .sh], b__law_rules⟩

def b__law_above_k33 : S := (.seq (.ite (.un (.isK .str) (.var 1))
    (.seq (.ret (.lit (.bl false)))
    .skip)
    .skip)
    (.seq (.ite (.un (.isK .str) (.var 2))
    (.seq (.ret (.bin .inn (.var 2) (.call "_law_blanks" (.cons (.var 1) .nil))))
    .skip)
    .skip)
    (.seq (.for (.one 3) .seq (.sl (.var 1) (.lit (.int 1)) .nix) .nix
    (.seq (.ite (.or (.bin .eq (.var 3) (.var 2)) (.one (.call "_law_above" (.cons (.var 0) (.cons (.var 3) (.cons (.var 2) .nil))))))
    (.seq (.ret (.lit (.bl true)))
    .skip)
    .skip)
    .skip))
    (.seq (.asg 4 false (.bin .sub (.bin .index (.var 0) (.bin .idx (.var 1) (.lit (.int 0)))) (.bin .index (.var 0) (.bin .idx (.var 2) (.lit (.int 0))))))
    (.seq (.ite (.or (.bin .lt (.var 4) (.lit (.int 0))) (.one (.bin .gt (.un .len (.lc [("_law_part", 3)] (.one 3) .seq (.sl (.var 2) (.lit (.int 1)) .nix) .nix (.not (.call "_law_above" (.cons (.var 0) (.cons (.var 1) (.cons (.var 3) .nil))))) (.var 3))) (.lit (.int 0)))))
    (.seq (.ret (.lit (.bl false)))
    .skip)
    .skip)
    (.seq (.ite (.bin .gt (.var 4) (.lit (.int 0)))
    (.seq (.ret (.lit (.bl true)))
    .skip)
    .skip)
    (.seq (.for (.many [5, 6]) .zip (.sl (.var 1) (.lit (.int 1)) .nix) (.sl (.var 2) (.lit (.int 1)) .nix)
    (.seq (.ite (.bin .ne (.var 5) (.var 6))
    (.seq (.ret (.call "_law_above" (.cons (.var 0) (.cons (.var 5) (.cons (.var 6) .nil)))))
    .skip)
    .skip)
    .skip))
    (.seq (.ret (.lit (.bl false)))
    .skip))))))))
def f__law_above_k33 : Fn := ⟨"_law_above", ["_law_rank", "_law_one", "_law_other", "_law_part", "_law_high", "_law_left", "_law_right"], [.sh, .sh, .sh], b__law_above_k33⟩

def b__law_signs_in : S := (.seq (.ite (.un (.isK .str) (.var 0))
    (.seq (.ret (.lst .nil))
    .skip)
    .skip)
    (.seq (.asg 1 false (.lst (.cons (.bin .idx (.var 0) (.lit (.int 0))) .nil)))
    (.seq (.for (.one 2) .seq (.sl (.var 0) (.lit (.int 1)) .nix) .nix
    (.seq (.asg 1 false (.bin .add (.var 1) (.call "_law_signs_in" (.cons (.var 2) .nil))))
    .skip))
    (.seq (.ret (.var 1))
    .skip))))
def f__law_signs_in : Fn := ⟨"_law_signs_in", ["_law_term_here", "_law_found", "_law_part"], [.sh], b__law_signs_in⟩

def b__law_down : S := (.seq (.ret (.bin .eq (.un .len (.lc [("_law_left", 2), ("_law_right", 3)] (.many [2, 3]) .seq (.var 1) .nix (.not (.call "_law_above" (.cons (.var 0) (.cons (.var 2) (.cons (.var 3) .nil))))) (.var 2))) (.lit (.int 0))))
    .skip)
def f__law_down : Fn := ⟨"_law_down", ["_law_rank", "_law_rules_here", "_law_left", "_law_right"], [.sh, .sh], b__law_down⟩

def b__law_any : S := (.seq (.ite (.bin .eq (.var 2) (.lst .nil))
    (.seq (.ret (.call "_law_down" (.cons (.var 1) (.cons (.var 0) .nil))))
    .skip)
    .skip)
    (.seq (.for (.one 3) .seq (.var 2) .nix
    (.seq (.ite (.call "_law_any" (.cons (.var 0) (.cons (.bin .add (.var 1) (.lst (.cons (.var 3) .nil))) (.cons (.lc [("_law_other", 4)] (.one 4) .seq (.var 2) .nix (.bin .ne (.var 4) (.var 3)) (.var 4)) .nil))))
    (.seq (.ret (.lit (.bl true)))
    .skip)
    .skip)
    .skip))
    (.seq (.ret (.lit (.bl false)))
    .skip)))
def f__law_any : Fn := ⟨"_law_any", ["_law_rules_here", "_law_rank", "_law_left", "_law_sign", "_law_other"], [.sh, .sh, .sh], b__law_any⟩

def b__law_small : S := (.seq (.ite (.un (.isK .str) (.var 0))
    (.seq (.ret (.lit (.bl true)))
    .skip)
    .skip)
    (.seq (.ret (.bin .le (.call "_law_size" (.cons (.var 0) .nil)) (.lit (.int 12))))
    .skip))
def f__law_small : Fn := ⟨"_law_small", ["_law_term_here"], [.sh], b__law_small⟩

def b_called : S := (.seq (.asg 2 true (.lst .nil))
    (.seq (.for (.one 3) .seq (.var 0) .nix
    (.seq (.for (.one 6) .seq (.call "blanks_of" (.cons (.var 3) .nil)) .nix
    (.seq (.ite (.bin .nin (.var 6) (.own 2))
    (.seq (.app 2 (.var 6))
    .skip)
    .skip)
    .skip))
    .skip))
    (.seq (.asg 4 true .dic0)
    (.seq (.for (.one 5) .rng (.un .len (.own 2)) .nix
    (.seq (.setI 4 (.bin .idx (.own 2) (.var 5)) (.bin .idx (.gl "LETTERS" (.str "ABCDEFGHIJKLMNOPQRSTUVWXYZ")) (.bin .add (.var 1) (.var 5))))
    .skip))
    (.seq (.ret (.lc [("term", 3)] (.one 3) .seq (.var 0) .nix (.lit (.bl true)) (.call "filled" (.cons (.var 3) (.cons (.fz 4) .nil)))))
    .skip)))))
def f_called : Fn := ⟨"called", ["terms", "first", "blanks", "term", "names", "k", "blank"], [.sh, .sh], b_called⟩

def b_overlap : S := (.seq (.asgT [8, 9] (.call "called" (.cons (.lst (.cons (.bin .idx (.bin .idx (.var 0) (.var 1)) (.lit (.int 0))) (.cons (.bin .idx (.bin .idx (.var 0) (.var 1)) (.lit (.int 1))) .nil))) (.cons (.lit (.int 0)) .nil))))
    (.seq (.asgT [10, 11] (.call "called" (.cons (.lst (.cons (.bin .idx (.bin .idx (.var 0) (.var 2)) (.lit (.int 0))) (.cons (.bin .idx (.bin .idx (.var 0) (.var 2)) (.lit (.int 1))) .nil))) (.cons (.un .len (.call "blanks_of" (.cons (.var 8) .nil))) .nil))))
    (.seq (.asg 4 false (.call "made_alike" (.cons (.call "part_at" (.cons (.var 8) (.cons (.var 3) .nil))) (.cons (.var 10) .nil))))
    (.seq (.ite (.un .isNone (.var 4))
    (.seq (.ret (.lit .non))
    .skip)
    .skip)
    (.seq (.asg 5 false (.call "filled" (.cons (.var 8) (.cons (.var 4) .nil))))
    (.seq (.asg 6 false (.call "filled" (.cons (.var 9) (.cons (.var 4) .nil))))
    (.seq (.asg 7 false (.call "filled" (.cons (.call "put_at" (.cons (.var 8) (.cons (.var 3) (.cons (.var 11) .nil)))) (.cons (.var 4) .nil))))
    (.seq (.asgT [5, 6, 7] (.call "called" (.cons (.lst (.cons (.var 5) (.cons (.var 6) (.cons (.var 7) .nil)))) (.cons (.lit (.int 0)) .nil))))
    (.seq (.ret (.tup (.cons (.var 1) (.cons (.var 2) (.cons (.var 3) (.cons (.var 5) (.cons (.var 6) (.cons (.var 7) .nil))))))))
    .skip)))))))))
def f_overlap : Fn := ⟨"overlap", ["rules", "k", "j", "place", "filling", "peak", "upper", "lower", "left", "right", "within", "outer"], [.sh, .sh, .sh, .sh], b_overlap⟩

def b_all_overlaps : S := (.seq (.asg 1 true (.lst .nil))
    (.seq (.for (.one 2) .rng (.un .len (.var 0)) .nix
    (.seq (.for (.one 3) .seq (.call "places_of" (.cons (.bin .idx (.bin .idx (.var 0) (.var 2)) (.lit (.int 0))) .nil)) .nix
    (.seq (.ite (.not (.un (.isK .str) (.call "part_at" (.cons (.bin .idx (.bin .idx (.var 0) (.var 2)) (.lit (.int 0))) (.cons (.var 3) .nil)))))
    (.seq (.for (.one 4) .rng (.un .len (.var 0)) .nix
    (.seq (.ite (.or (.bin .ne (.var 2) (.var 4)) (.one (.bin .ne (.var 3) (.tup .nil))))
    (.seq (.asg 5 false (.call "overlap" (.cons (.var 0) (.cons (.var 2) (.cons (.var 4) (.cons (.var 3) .nil))))))
    (.seq (.ite (.un .notNone (.var 5))
    (.seq (.app 1 (.var 5))
    .skip)
    .skip)
    .skip))
    .skip)
    .skip))
    .skip)
    .skip)
    .skip))
    .skip))
    (.seq (.ret (.mv 1))
    .skip)))
def f_all_overlaps : Fn := ⟨"all_overlaps", ["rules", "found", "k", "place", "j", "one"], [.sh], b_all_overlaps⟩

def b_overlaps : S := (.seq (.ex (.call "must_rules" (.cons (.var 0) (.cons (.lst .nil) .nil))))
    (.seq (.ret (.call "all_overlaps" (.cons (.var 0) .nil)))
    .skip))
def f_overlaps : Fn := ⟨"overlaps", ["rules"], [.sh], b_overlaps⟩

def b__law_in : S := (.seq (.ite (.un (.isK .str) (.var 1))
    (.seq (.ret (.or (.bin .eq (.var 1) (.var 0)) (.one (.and (.bin .inn (.var 1) (.var 2)) (.one (.call "_law_in" (.cons (.var 0) (.cons (.bin .idx (.var 2) (.var 1)) (.cons (.var 2) .nil)))))))))
    .skip)
    .skip)
    (.seq (.ret (.bin .gt (.un .len (.lc [("_law_part", 3)] (.one 3) .seq (.sl (.var 1) (.lit (.int 1)) .nix) .nix (.call "_law_in" (.cons (.var 0) (.cons (.var 3) (.cons (.var 2) .nil)))) (.var 3))) (.lit (.int 0))))
    .skip))
def f__law_in : Fn := ⟨"_law_in", ["_law_blank", "_law_term_here", "_law_filling", "_law_part"], [.sh, .sh, .sh], b__law_in⟩

def b__law_alike_k41 : S := (.seq (.wh 1000 (.and (.un (.isK .str) (.var 0)) (.one (.bin .inn (.var 0) (.own 2))))
    (.seq (.asg 0 false (.bin .idx (.own 2) (.var 0)))
    .skip))
    (.seq (.wh 1000 (.and (.un (.isK .str) (.var 1)) (.one (.bin .inn (.var 1) (.own 2))))
    (.seq (.asg 1 false (.bin .idx (.own 2) (.var 1)))
    .skip))
    (.seq (.ite (.bin .eq (.var 0) (.var 1))
    (.seq (.ret (.lit (.bl true)))
    .skip)
    .skip)
    (.seq (.ite (.un (.isK .str) (.var 0))
    (.seq (.ite (.call "_law_in" (.cons (.var 0) (.cons (.var 1) (.cons (.own 2) .nil))))
    (.seq (.ret (.lit (.bl false)))
    .skip)
    .skip)
    (.seq (.setI 2 (.var 0) (.var 1))
    (.seq (.ret (.lit (.bl true)))
    .skip)))
    .skip)
    (.seq (.ite (.un (.isK .str) (.var 1))
    (.seq (.ret (.call "_law_alike" (.cons (.var 1) (.cons (.var 0) (.cons (.mut 2) .nil)))))
    .skip)
    .skip)
    (.seq (.ite (.or (.bin .ne (.bin .idx (.var 0) (.lit (.int 0))) (.bin .idx (.var 1) (.lit (.int 0)))) (.one (.bin .ne (.un .len (.var 0)) (.un .len (.var 1)))))
    (.seq (.ret (.lit (.bl false)))
    .skip)
    .skip)
    (.seq (.for (.many [3, 4]) .zip (.sl (.var 0) (.lit (.int 1)) .nix) (.sl (.var 1) (.lit (.int 1)) .nix)
    (.seq (.ite (.not (.call "_law_alike" (.cons (.var 3) (.cons (.var 4) (.cons (.mut 2) .nil)))))
    (.seq (.ret (.lit (.bl false)))
    .skip)
    .skip)
    .skip))
    (.seq (.ret (.lit (.bl true)))
    .skip))))))))
def f__law_alike_k41 : Fn := ⟨"_law_alike", ["_law_one", "_law_other", "_law_filling", "_law_left", "_law_right"], [.sh, .sh, .mu], b__law_alike_k41⟩

def b__law_whole : S := (.seq (.ite (.un (.isK .str) (.var 0))
    (.seq (.ite (.bin .inn (.var 0) (.var 1))
    (.seq (.ret (.call "_law_whole" (.cons (.bin .idx (.var 1) (.var 0)) (.cons (.var 1) .nil))))
    .skip)
    .skip)
    (.seq (.ret (.var 0))
    .skip))
    .skip)
    (.seq (.ret (.bin .add (.tup (.cons (.bin .idx (.var 0) (.lit (.int 0))) .nil)) (.un .tuple (.lc [("_law_part", 2)] (.one 2) .seq (.sl (.var 0) (.lit (.int 1)) .nix) .nix (.lit (.bl true)) (.call "_law_whole" (.cons (.var 2) (.cons (.var 1) .nil)))))))
    .skip))
def f__law_whole : Fn := ⟨"_law_whole", ["_law_term_here", "_law_filling", "_law_part"], [.sh, .sh], b__law_whole⟩

def b__law_called : S := (.seq (.asg 2 true .dic0)
    (.seq (.for (.one 3) .seq (.var 0) .nix
    (.seq (.for (.one 4) .seq (.call "_law_blanks" (.cons (.var 3) .nil)) .nix
    (.seq (.ite (.bin .nin (.var 4) (.own 2))
    (.seq (.setI 2 (.var 4) (.bin .idx (.var 1) (.un .len (.own 2))))
    .skip)
    .skip)
    .skip))
    .skip))
    (.seq (.ret (.lc [("_law_term_here", 3)] (.one 3) .seq (.var 0) .nix (.lit (.bl true)) (.call "_law_filled" (.cons (.var 3) (.cons (.fz 2) .nil)))))
    .skip)))
def f__law_called : Fn := ⟨"_law_called", ["_law_terms", "_law_letters", "_law_names", "_law_term_here", "_law_blank"], [.sh, .sh], b__law_called⟩

def b__law_inner : S := (.seq (.ite (.un (.isK .str) (.var 0))
    (.seq (.ret (.lst .nil))
    .skip)
    .skip)
    (.seq (.asg 1 true (.lst (.cons (.lst (.cons (.tup .nil) (.cons (.var 0) .nil))) .nil)))
    (.seq (.for (.one 2) .rng2 (.lit (.int 1)) (.un .len (.var 0))
    (.seq (.for (.many [3, 4]) .seq (.call "_law_inner" (.cons (.bin .idx (.var 0) (.var 2)) .nil)) .nix
    (.seq (.app 1 (.lst (.cons (.bin .add (.tup (.cons (.bin .sub (.var 2) (.lit (.int 1))) .nil)) (.var 3)) (.cons (.var 4) .nil))))
    .skip))
    .skip))
    (.seq (.ret (.mv 1))
    .skip))))
def f__law_inner : Fn := ⟨"_law_inner", ["_law_term_here", "_law_found", "_law_k", "_law_place", "_law_part"], [.sh], b__law_inner⟩

def b__law_put_k41 : S := (.seq (.ite (.bin .eq (.var 1) (.tup .nil))
    (.seq (.ret (.var 2))
    .skip)
    .skip)
    (.seq (.asg 3 false (.bin .add (.bin .idx (.var 1) (.lit (.int 0))) (.lit (.int 1))))
    (.seq (.ret (.bin .add (.bin .add (.sl (.var 0) .nix (.var 3)) (.tup (.cons (.call "_law_put" (.cons (.bin .idx (.var 0) (.var 3)) (.cons (.sl (.var 1) (.lit (.int 1)) .nix) (.cons (.var 2) .nil)))) .nil))) (.sl (.var 0) (.bin .add (.var 3) (.lit (.int 1))) .nix)))
    .skip)))
def f__law_put_k41 : Fn := ⟨"_law_put", ["_law_term_here", "_law_place", "_law_new", "_law_at"], [.sh, .sh, .sh], b__law_put_k41⟩

def b__law_overlaps : S := (.seq (.asg 1 true (.lst .nil))
    (.seq (.for (.one 2) .rng (.un .len (.var 0)) .nix
    (.seq (.asgT [3, 4] (.call "_law_called" (.cons (.bin .idx (.var 0) (.var 2)) (.cons (.lit (.str "ABCDEFGHIJKLM")) .nil))))
    (.seq (.for (.many [5, 6]) .seq (.call "_law_inner" (.cons (.var 3) .nil)) .nix
    (.seq (.for (.one 7) .rng (.un .len (.var 0)) .nix
    (.seq (.asgT [9, 10] (.call "_law_called" (.cons (.bin .idx (.var 0) (.var 7)) (.cons (.lit (.str "NOPQRSTUVWXYZ")) .nil))))
    (.seq (.asg 8 true .dic0)
    (.seq (.ite (.and (.or (.bin .ne (.var 2) (.var 7)) (.one (.bin .ne (.var 5) (.tup .nil)))) (.one (.call "_law_alike" (.cons (.var 6) (.cons (.var 9) (.cons (.mut 8) .nil))))))
    (.seq (.asg 11 false (.lst (.cons (.var 3) (.cons (.var 4) (.cons (.call "_law_put" (.cons (.var 3) (.cons (.var 5) (.cons (.var 10) .nil)))) .nil)))))
    (.seq (.asg 11 false (.lc [("_law_term_here", 15)] (.one 15) .seq (.var 11) .nix (.lit (.bl true)) (.call "_law_whole" (.cons (.var 15) (.cons (.fz 8) .nil)))))
    (.seq (.asgT [12, 13, 14] (.call "_law_called" (.cons (.var 11) (.cons (.lit (.str "ABCDEFGHIJKLMNOPQRSTUVWXYZ")) .nil))))
    (.seq (.app 1 (.tup (.cons (.var 2) (.cons (.var 7) (.cons (.var 5) (.cons (.var 12) (.cons (.var 13) (.cons (.var 14) .nil))))))))
    .skip))))
    .skip)
    .skip))))
    .skip))
    .skip)))
    (.seq (.ret (.mv 1))
    .skip)))
def f__law_overlaps : Fn := ⟨"_law_overlaps", ["_law_rules_here", "_law_found", "_law_k", "_law_left", "_law_right", "_law_place", "_law_part", "_law_j", "_law_filling", "_law_within", "_law_outer", "_law_three", "_law_peak", "_law_upper", "_law_lower", "_law_term_here"], [.sh], b__law_overlaps⟩

def b_law_k41 : S := (.seq (.asgT [5, 6] (.call "_law_rules" (.cons (.var 0) (.cons (.lit (.int 4)) .nil))))
    (.seq (.asg 1 false (.un .list (.var 6)))
    (.seq (.asg 2 false (.call "_law_overlaps" (.cons (.var 6) .nil)))
    (.seq (.asg 3 true (.call "overlaps" (.cons (.var 1) .nil)))
    (.seq (.ite (.or (.not (.un (.isK .lst) (.own 3))) (.or (.bin .ne (.own 3) (.var 2)) (.one (.bin .ne (.var 1) (.var 6)))))
    (.seq (.ret (.lit (.bl false)))
    .skip)
    .skip)
    (.seq (.for (.one 4) .seq (.fz 3) .nix
    (.seq (.ite (.or (.not (.un (.isK .tup) (.var 4))) (.or (.un (.isK .bl) (.bin .idx (.var 4) (.lit (.int 0)))) (.one (.un (.isK .bl) (.bin .idx (.var 4) (.lit (.int 1)))))))
    (.seq (.ret (.lit (.bl false)))
    .skip)
    .skip)
    .skip))
    (.seq (.clear 3)
    (.seq (.ret (.bin .eq (.call "overlaps" (.cons (.var 1) .nil)) (.var 2)))
    .skip))))))))
def f_law_k41 : Fn := ⟨"law", ["_law_script", "_law_handed", "_law_due", "_law_found", "_law_one", "_law_signs_here", "_law_rules_here"], [.sh], b_law_k41⟩

def b_judgement : S := (.seq (.asg 1 true (.lst .nil))
    (.seq (.for (.one 2) .seq (.call "all_overlaps" (.cons (.var 0) .nil)) .nix
    (.seq (.asg 3 false (.call "chain_from" (.cons (.var 0) (.cons (.bin .idx (.var 2) (.lit (.int 4))) .nil))))
    (.seq (.asg 4 false (.call "chain_from" (.cons (.var 0) (.cons (.bin .idx (.var 2) (.lit (.int 5))) .nil))))
    (.seq (.ite (.bin .ne (.call "end_of" (.cons (.bin .idx (.var 2) (.lit (.int 4))) (.cons (.var 3) .nil))) (.call "end_of" (.cons (.bin .idx (.var 2) (.lit (.int 5))) (.cons (.var 4) .nil))))
    (.seq (.ret (.tup (.cons (.lit (.str "two ends")) (.cons (.var 2) (.cons (.var 3) (.cons (.var 4) .nil))))))
    .skip)
    .skip)
    (.seq (.app 1 (.tup (.cons (.var 3) (.cons (.var 4) .nil))))
    .skip)))))
    (.seq (.ret (.tup (.cons (.lit (.str "one end")) (.cons (.fz 1) .nil))))
    .skip)))
def f_judgement : Fn := ⟨"judgement", ["rules", "chains", "one", "upper", "lower"], [.sh], b_judgement⟩

def b_judged : S := (.seq (.ite (.un .isNone (.call "rank_of" (.cons (.var 0) .nil)))
    (.seq .never
    .skip)
    .skip)
    (.seq (.ret (.call "judgement" (.cons (.var 0) .nil)))
    .skip))
def f_judged : Fn := ⟨"judged", ["rules"], [.sh], b_judged⟩

def b__law_fit : S := (.seq (.ite (.un (.isK .str) (.var 0))
    (.seq (.ite (.bin .inn (.var 0) (.own 2))
    (.seq (.ret (.bin .eq (.bin .idx (.own 2) (.var 0)) (.var 1)))
    .skip)
    .skip)
    (.seq (.setI 2 (.var 0) (.var 1))
    (.seq (.ret (.lit (.bl true)))
    .skip)))
    .skip)
    (.seq (.ite (.or (.un (.isK .str) (.var 1)) (.or (.bin .ne (.bin .idx (.var 1) (.lit (.int 0))) (.bin .idx (.var 0) (.lit (.int 0)))) (.one (.bin .ne (.un .len (.var 1)) (.un .len (.var 0))))))
    (.seq (.ret (.lit (.bl false)))
    .skip)
    .skip)
    (.seq (.for (.many [3, 4]) .zip (.sl (.var 0) (.lit (.int 1)) .nix) (.sl (.var 1) (.lit (.int 1)) .nix)
    (.seq (.ite (.not (.call "_law_fit" (.cons (.var 3) (.cons (.var 4) (.cons (.mut 2) .nil)))))
    (.seq (.ret (.lit (.bl false)))
    .skip)
    .skip)
    .skip))
    (.seq (.ret (.lit (.bl true)))
    .skip))))
def f__law_fit : Fn := ⟨"_law_fit", ["_law_pattern", "_law_term_here", "_law_filling", "_law_left", "_law_right"], [.sh, .sh, .mu], b__law_fit⟩

def b__law_first_k42 : S := (.seq (.ite (.un (.isK .str) (.var 1))
    (.seq (.ret (.lit .non))
    .skip)
    .skip)
    (.seq (.for (.one 2) .rng (.un .len (.var 0)) .nix
    (.seq (.asg 3 true .dic0)
    (.seq (.ite (.call "_law_fit" (.cons (.bin .idx (.bin .idx (.var 0) (.var 2)) (.lit (.int 0))) (.cons (.var 1) (.cons (.mut 3) .nil))))
    (.seq (.ret (.tup (.cons (.tup .nil) (.cons (.var 2) (.cons (.call "_law_filled" (.cons (.bin .idx (.bin .idx (.var 0) (.var 2)) (.lit (.int 1))) (.cons (.fz 3) .nil))) .nil)))))
    .skip)
    .skip)
    .skip)))
    (.seq (.for (.one 2) .rng2 (.lit (.int 1)) (.un .len (.var 1))
    (.seq (.asg 4 false (.call "_law_first" (.cons (.var 0) (.cons (.bin .idx (.var 1) (.var 2)) .nil))))
    (.seq (.ite (.un .notNone (.var 4))
    (.seq (.ret (.tup (.cons (.bin .add (.tup (.cons (.bin .sub (.var 2) (.lit (.int 1))) .nil)) (.bin .idx (.var 4) (.lit (.int 0)))) (.cons (.bin .idx (.var 4) (.lit (.int 1))) (.cons (.bin .add (.bin .add (.sl (.var 1) .nix (.var 2)) (.tup (.cons (.bin .idx (.var 4) (.lit (.int 2))) .nil))) (.sl (.var 1) (.bin .add (.var 2) (.lit (.int 1))) .nix)) .nil)))))
    .skip)
    .skip)
    .skip)))
    (.seq (.ret (.lit .non))
    .skip))))
def f__law_first_k42 : Fn := ⟨"_law_first", ["_law_rules_here", "_law_term_here", "_law_k", "_law_filling", "_law_found"], [.sh, .sh], b__law_first_k42⟩

def b__law_chain_k42 : S := (.seq (.asg 2 true (.lst .nil))
    (.seq (.asg 3 false (.call "_law_first" (.cons (.var 0) (.cons (.var 1) .nil))))
    (.seq (.wh 1000 (.un .notNone (.var 3))
    (.seq (.ite (.or (.bin .eq (.un .len (.own 2)) (.lit (.int 30))) (.one (.bin .gt (.call "_law_size" (.cons (.bin .idx (.var 3) (.lit (.int 2))) .nil)) (.lit (.int 80)))))
    (.seq (.ret (.lit .non))
    .skip)
    .skip)
    (.seq (.app 2 (.var 3))
    (.seq (.asg 3 false (.call "_law_first" (.cons (.var 0) (.cons (.bin .idx (.var 3) (.lit (.int 2))) .nil))))
    .skip))))
    (.seq (.ret (.mv 2))
    .skip))))
def f__law_chain_k42 : Fn := ⟨"_law_chain", ["_law_rules_here", "_law_term_here", "_law_found", "_law_step"], [.sh, .sh], b__law_chain_k42⟩

def b__law_end : S := (.seq (.ite (.bin .eq (.var 1) (.lst .nil))
    (.seq (.ret (.var 0))
    .skip)
    .skip)
    (.seq (.ret (.bin .idx (.bin .idx (.var 1) (.un .neg (.lit (.int 1)))) (.lit (.int 2))))
    .skip))
def f__law_end : Fn := ⟨"_law_end", ["_law_term_here", "_law_row"], [.sh, .sh], b__law_end⟩

def b__law_due_k42 : S := (.seq (.ite (.un .isNone (.call "rank_of" (.cons (.var 0) .nil)))
    (.seq (.ret (.lst (.cons (.lit (.str "no rank")) (.cons (.var 0) .nil))))
    .skip)
    .skip)
    (.seq (.asg 1 true (.lst .nil))
    (.seq (.for (.one 2) .seq (.call "overlaps" (.cons (.var 0) .nil)) .nix
    (.seq (.asg 3 true (.lst .nil))
    (.seq (.for (.one 4) .seq (.lst (.cons (.bin .idx (.var 2) (.lit (.int 4))) (.cons (.bin .idx (.var 2) (.lit (.int 5))) .nil))) .nix
    (.seq (.asg 5 false (.call "_law_chain" (.cons (.var 0) (.cons (.var 4) .nil))))
    (.seq (.ite (.un .isNone (.var 5))
    (.seq (.ret (.lst (.cons (.lit (.str "long")) (.cons (.var 4) .nil))))
    .skip)
    .skip)
    (.seq (.app 3 (.var 5))
    .skip))))
    (.seq (.ite (.bin .ne (.call "_law_end" (.cons (.bin .idx (.var 2) (.lit (.int 4))) (.cons (.bin .idx (.own 3) (.lit (.int 0))) .nil))) (.call "_law_end" (.cons (.bin .idx (.var 2) (.lit (.int 5))) (.cons (.bin .idx (.own 3) (.lit (.int 1))) .nil))))
    (.seq (.ret (.lst (.cons (.lit (.str "told")) (.cons (.tup (.cons (.lit (.str "two ends")) (.cons (.var 2) (.cons (.bin .idx (.own 3) (.lit (.int 0))) (.cons (.bin .idx (.own 3) (.lit (.int 1))) .nil))))) .nil))))
    .skip)
    .skip)
    (.seq (.app 1 (.tup (.cons (.bin .idx (.own 3) (.lit (.int 0))) (.cons (.bin .idx (.own 3) (.lit (.int 1))) .nil))))
    .skip)))))
    (.seq (.ret (.lst (.cons (.lit (.str "told")) (.cons (.tup (.cons (.lit (.str "one end")) (.cons (.fz 1) .nil))) .nil))))
    .skip))))
def f__law_due_k42 : Fn := ⟨"_law_due", ["_law_rules_here", "_law_found", "_law_one", "_law_chains", "_law_term_here", "_law_row"], [.sh], b__law_due_k42⟩

def b__law_emptied : S := (.seq (.ite (.un (.isK .lst) (.own 0))
    (.seq (.for (.one 1) .seq (.own 0) .nix
    (.seq (.ex (.call "_law_emptied" (.cons (.mut 1) .nil)))
    .skip))
    (.seq (.clear 0)
    .skip))
    .skip)
    (.seq (.ite (.un (.isK .tup) (.own 0))
    (.seq (.for (.one 1) .seq (.own 0) .nix
    (.seq (.ex (.call "_law_emptied" (.cons (.mut 1) .nil)))
    .skip))
    .skip)
    .skip)
    .skip))
def f__law_emptied : Fn := ⟨"_law_emptied", ["_law_found", "_law_one"], [.mu], b__law_emptied⟩

def b_law_k42 : S := (.seq (.asgT [4, 5] (.call "_law_rules" (.cons (.var 0) (.cons (.lit (.int 4)) .nil))))
    (.seq (.asg 1 false (.un .list (.var 5)))
    (.seq (.asg 2 false (.call "_law_due" (.cons (.var 5) .nil)))
    (.seq (.asg 3 true (.call "_law_judged" (.cons (.var 1) .nil)))
    (.seq (.ite (.or (.bin .ne (.call "_law_kind" (.cons (.fz 3) .nil)) (.var 2)) (.one (.bin .ne (.var 1) (.var 5))))
    (.seq (.ret (.lit (.bl false)))
    .skip)
    .skip)
    (.seq (.ite (.un (.isK .tup) (.own 3))
    (.seq (.ex (.call "_law_emptied" (.cons (.mut 3) .nil)))
    .skip)
    .skip)
    (.seq (.ite (.bin .ne (.call "judged" (.cons (.lst .nil) .nil)) (.tup (.cons (.lit (.str "one end")) (.cons (.lst .nil) .nil))))
    (.seq (.ret (.lit (.bl false)))
    .skip)
    .skip)
    (.seq (.ret (.bin .eq (.call "_law_kind" (.cons (.call "_law_judged" (.cons (.var 1) .nil)) .nil)) (.call "_law_due" (.cons (.var 5) .nil))))
    .skip))))))))
def f_law_k42 : Fn := ⟨"law", ["_law_script", "_law_handed", "_law_due_here", "_law_found", "_law_signs_here", "_law_rules_here"], [.sh], b_law_k42⟩

def b__law_term_k43 : S := (.seq (.asg 4 false (.bin .add (.un .len (.var 2)) (.un .len (.var 3))))
    (.seq (.asg 5 false (.bin .mod (.var 0) (.var 4)))
    (.seq (.asg 0 false (.bin .fdiv (.var 0) (.var 4)))
    (.seq (.ite (.bin .lt (.var 5) (.un .len (.var 3)))
    (.seq (.ret (.lst (.cons (.bin .idx (.var 3) (.var 5)) (.cons (.var 0) .nil))))
    .skip)
    .skip)
    (.seq (.asgT [8, 9] (.bin .idx (.var 2) (.bin .sub (.var 5) (.un .len (.var 3)))))
    (.seq (.ite (.and (.bin .eq (.var 1) (.lit (.int 0))) (.one (.bin .gt (.var 9) (.lit (.int 0)))))
    (.seq (.ret (.lst (.cons (.tup (.cons (.bin .idx (.bin .idx (.var 2) (.lit (.int 0))) (.lit (.int 0))) .nil)) (.cons (.var 0) .nil))))
    .skip)
    .skip)
    (.seq (.asg 6 true (.lst .nil))
    (.seq (.for (.one 7) .rng (.var 9) .nix
    (.seq (.asgT [10, 0] (.call "_law_term" (.cons (.var 0) (.cons (.bin .sub (.var 1) (.lit (.int 1))) (.cons (.var 2) (.cons (.var 3) .nil))))))
    (.seq (.app 6 (.var 10))
    .skip)))
    (.seq (.ret (.lst (.cons (.bin .add (.tup (.cons (.var 8) .nil)) (.un .tuple (.own 6))) (.cons (.var 0) .nil))))
    .skip)))))))))
def f__law_term_k43 : Fn := ⟨"_law_term", ["_law_number_here", "_law_low", "_law_signs_here", "_law_blanks_here", "_law_many", "_law_pick", "_law_parts", "_law_k", "_law_sign", "_law_count", "_law_part"], [.sh, .sh, .sh, .sh], b__law_term_k43⟩

def b__law_steps_k43 : S := (.seq (.ite (.un (.isK .str) (.var 1))
    (.seq (.ret (.lst .nil))
    .skip)
    .skip)
    (.seq (.asg 2 true (.lst .nil))
    (.seq (.for (.one 3) .rng (.un .len (.var 0)) .nix
    (.seq (.asg 4 true .dic0)
    (.seq (.ite (.call "_law_fit" (.cons (.bin .idx (.bin .idx (.var 0) (.var 3)) (.lit (.int 0))) (.cons (.var 1) (.cons (.mut 4) .nil))))
    (.seq (.app 2 (.tup (.cons (.tup .nil) (.cons (.var 3) (.cons (.call "_law_filled" (.cons (.bin .idx (.bin .idx (.var 0) (.var 3)) (.lit (.int 1))) (.cons (.fz 4) .nil))) .nil)))))
    .skip)
    .skip)
    .skip)))
    (.seq (.for (.one 3) .rng2 (.lit (.int 1)) (.un .len (.var 1))
    (.seq (.for (.many [5, 6, 7]) .seq (.call "_law_steps" (.cons (.var 0) (.cons (.bin .idx (.var 1) (.var 3)) .nil))) .nix
    (.seq (.app 2 (.tup (.cons (.bin .add (.tup (.cons (.bin .sub (.var 3) (.lit (.int 1))) .nil)) (.var 5)) (.cons (.var 6) (.cons (.bin .add (.bin .add (.sl (.var 1) .nix (.var 3)) (.tup (.cons (.var 7) .nil))) (.sl (.var 1) (.bin .add (.var 3) (.lit (.int 1))) .nix)) .nil)))))
    .skip))
    .skip))
    (.seq (.ret (.mv 2))
    .skip)))))
def f__law_steps_k43 : Fn := ⟨"_law_steps", ["_law_rules_here", "_law_term_here", "_law_found", "_law_k", "_law_filling", "_law_place", "_law_rule_here", "_law_part"], [.sh, .sh], b__law_steps_k43⟩

def b__law_walk : S := (.seq (.asg 3 false (.call "_law_steps" (.cons (.var 0) (.cons (.var 1) .nil))))
    (.seq (.for (.one 4) .seq (.var 2) .nix
    (.seq (.ite (.or (.bin .eq (.var 3) (.lst .nil)) (.one (.bin .gt (.call "_law_size" (.cons (.var 1) .nil)) (.lit (.int 80)))))
    (.seq (.ret (.lst (.cons (.var 1) (.cons (.bin .eq (.var 3) (.lst .nil)) .nil))))
    .skip)
    .skip)
    (.seq (.asg 1 false (.bin .idx (.bin .idx (.var 3) (.bin .mod (.var 4) (.un .len (.var 3)))) (.lit (.int 2))))
    (.seq (.asg 3 false (.call "_law_steps" (.cons (.var 0) (.cons (.var 1) .nil))))
    .skip))))
    (.seq (.ret (.lst (.cons (.var 1) (.cons (.bin .eq (.var 3) (.lst .nil)) .nil))))
    .skip)))
def f__law_walk : Fn := ⟨"_law_walk", ["_law_rules_here", "_law_term_here", "_law_cells", "_law_next_ones", "_law_cell_here"], [.sh, .sh, .sh], b__law_walk⟩

def b__law_joined : S := (.seq (.asg 3 false (.call "_law_walk" (.cons (.var 0) (.cons (.var 1) (.cons (.lc [("_law_cell_here", 6)] (.one 6) .seq (.var 2) .nix (.lit (.bl true)) (.bin .fdiv (.var 6) (.lit (.int 5)))) .nil)))))
    (.seq (.asg 4 false (.call "_law_walk" (.cons (.var 0) (.cons (.var 1) (.cons (.lc [("_law_cell_here", 6)] (.one 6) .rev (.var 2) .nix (.lit (.bl true)) (.bin .fdiv (.var 6) (.lit (.int 7)))) .nil)))))
    (.seq (.asg 5 false (.call "_law_end" (.cons (.var 0) (.cons (.var 1) .nil))))
    (.seq (.ite (.and (.bin .idx (.var 3) (.lit (.int 1))) (.and (.bin .idx (.var 4) (.lit (.int 1))) (.one (.bin .ne (.bin .idx (.var 3) (.lit (.int 0))) (.bin .idx (.var 4) (.lit (.int 0)))))))
    (.seq (.ret (.lit (.bl false)))
    .skip)
    .skip)
    (.seq (.ite (.and (.bin .idx (.var 3) (.lit (.int 1))) (.and (.bin .ne (.var 5) (.lst .nil)) (.one (.bin .ne (.bin .idx (.var 5) (.lit (.int 0))) (.bin .idx (.var 3) (.lit (.int 0)))))))
    (.seq (.ret (.lit (.bl false)))
    .skip)
    .skip)
    (.seq (.ret (.or (.bin .eq (.var 5) (.lst .nil)) (.one (.bin .eq (.call "_law_steps" (.cons (.var 0) (.cons (.bin .idx (.var 5) (.lit (.int 0))) .nil))) (.lst .nil)))))
    .skip))))))
def f__law_joined : Fn := ⟨"_law_joined", ["_law_rules_here", "_law_term_here", "_law_cells", "_law_one", "_law_other", "_law_straight", "_law_cell_here"], [.sh, .sh, .sh], b__law_joined⟩

def b__law_led : S := (.seq (.for (.one 3) .seq (.var 2) .nix
    (.seq (.ite (.bin .nin (.var 3) (.call "_law_steps" (.cons (.var 0) (.cons (.var 1) .nil))))
    (.seq (.ret (.lit .non))
    .skip)
    .skip)
    (.seq (.asg 1 false (.bin .idx (.var 3) (.lit (.int 2))))
    .skip)))
    (.seq (.ite (.bin .ne (.call "_law_steps" (.cons (.var 0) (.cons (.var 1) .nil))) (.lst .nil))
    (.seq (.ret (.lit .non))
    .skip)
    .skip)
    (.seq (.ret (.var 1))
    .skip)))
def f__law_led : Fn := ⟨"_law_led", ["_law_rules_here", "_law_term_here", "_law_way", "_law_step"], [.sh, .sh, .sh], b__law_led⟩

def b__law_two : S := (.seq (.asgT [5, 6, 7, 8, 9, 10] (.bin .idx (.var 1) (.lit (.int 1))))
    (.seq (.asg 2 false (.call "_law_steps" (.cons (.var 0) (.cons (.var 8) .nil))))
    (.seq (.ite (.or (.bin .nin (.tup (.cons (.tup .nil) (.cons (.var 5) (.cons (.var 9) .nil)))) (.var 2)) (.one (.bin .nin (.tup (.cons (.var 7) (.cons (.var 6) (.cons (.var 10) .nil)))) (.var 2))))
    (.seq (.ret (.lit (.bl false)))
    .skip)
    .skip)
    (.seq (.asg 3 false (.call "_law_led" (.cons (.var 0) (.cons (.var 9) (.cons (.bin .idx (.var 1) (.lit (.int 2))) .nil)))))
    (.seq (.asg 4 false (.call "_law_led" (.cons (.var 0) (.cons (.var 10) (.cons (.bin .idx (.var 1) (.lit (.int 3))) .nil)))))
    (.seq (.ret (.and (.un .notNone (.var 3)) (.and (.un .notNone (.var 4)) (.one (.bin .ne (.var 3) (.var 4))))))
    .skip))))))
def f__law_two : Fn := ⟨"_law_two", ["_law_rules_here", "_law_found", "_law_fork", "_law_one", "_law_other", "_law_k", "_law_j", "_law_place", "_law_peak", "_law_upper", "_law_lower"], [.sh, .sh], b__law_two⟩

def b_law_k43 : S := (.seq (.asgT [4, 5] (.call "_law_rules" (.cons (.var 0) (.cons (.lit (.int 4)) .nil))))
    (.seq (.asg 1 false (.call "_law_judged" (.cons (.var 5) .nil)))
    (.seq (.ite (.bin .eq (.bin .idx (.var 1) (.lit (.int 0))) (.lit (.str "two ends")))
    (.seq (.ret (.call "_law_two" (.cons (.var 5) (.cons (.var 1) .nil))))
    .skip)
    .skip)
    (.seq (.ite (.bin .ne (.bin .idx (.var 1) (.lit (.int 0))) (.lit (.str "one end")))
    (.seq (.ret (.lit (.bl true)))
    .skip)
    .skip)
    (.seq (.asg 2 false (.sl (.bin .add (.sl (.var 0) (.lit (.int 12)) (.lit (.int 63))) (.lst (.cons (.lit (.int 0)) (.cons (.lit (.int 1)) (.cons (.lit (.int 2)) (.cons (.lit (.int 3)) (.cons (.lit (.int 4)) (.cons (.lit (.int 5)) .nil)))))))) .nix (.lit (.int 30))))
    (.seq (.for (.one 3) .seq (.sl (.var 0) (.lit (.int 6)) (.lit (.int 12))) .nix
    (.seq (.asg 6 false (.bin .idx (.call "_law_term" (.cons (.call "_law_number" (.cons (.var 3) .nil)) (.cons (.lit (.int 3)) (.cons (.var 4) (.cons (.lst (.cons (.lit (.str "A")) (.cons (.lit (.str "B")) (.cons (.lit (.str "X")) .nil)))) .nil))))) (.lit (.int 0))))
    (.seq (.ite (.and (.bin .le (.call "_law_size" (.cons (.var 6) .nil)) (.lit (.int 30))) (.one (.not (.call "_law_joined" (.cons (.var 5) (.cons (.var 6) (.cons (.var 2) .nil)))))))
    (.seq (.ret (.lit (.bl false)))
    .skip)
    .skip)
    .skip)))
    (.seq (.ret (.lit (.bl true)))
    .skip)))))))
def f_law_k43 : Fn := ⟨"law", ["_law_script", "_law_found", "_law_cells", "_law_cell_here", "_law_signs_here", "_law_rules_here", "_law_term_here"], [.sh], b_law_k43⟩

def b_led_together : S := (.seq (.ex (.call "must_rules" (.cons (.var 0) (.cons (.lst (.cons (.var 1) (.cons (.var 2) .nil))) .nil))))
    (.seq (.ret (.bin .eq (.call "end" (.cons (.var 0) (.cons (.var 1) .nil))) (.call "end" (.cons (.var 0) (.cons (.var 2) .nil)))))
    .skip))
def f_led_together : Fn := ⟨"led_together", ["rules", "one", "other"], [.sh, .sh, .sh], b_led_together⟩

def b__law_walk_k44 : S := (.seq (.for (.one 3) .seq (.var 2) .nix
    (.seq (.asg 4 false (.call "_law_steps" (.cons (.var 0) (.cons (.var 1) .nil))))
    (.seq (.ite (.and (.bin .ne (.var 4) (.lst .nil)) (.one (.bin .le (.call "_law_size" (.cons (.bin .idx (.bin .idx (.var 4) (.bin .mod (.var 3) (.un .len (.var 4)))) (.lit (.int 2))) .nil)) (.lit (.int 40)))))
    (.seq (.asg 1 false (.bin .idx (.bin .idx (.var 4) (.bin .mod (.var 3) (.un .len (.var 4)))) (.lit (.int 2))))
    .skip)
    .skip)
    .skip)))
    (.seq (.ret (.var 1))
    .skip))
def f__law_walk_k44 : Fn := ⟨"_law_walk", ["_law_rules_here", "_law_term_here", "_law_cells", "_law_cell_here", "_law_next_ones"], [.sh, .sh, .sh], b__law_walk_k44⟩

def b_law_k44 : S := (.seq (.asgT [5, 6] (.call "_law_rules" (.cons (.var 0) (.cons (.lit (.int 4)) .nil))))
    (.seq (.asg 1 false (.call "_law_one_end" (.cons (.var 6) .nil)))
    (.seq (.asg 2 false (.lit (.str "A")))
    (.seq (.asg 3 false (.bin .add (.sl (.var 0) (.lit (.int 12)) (.lit (.int 63))) (.lst (.cons (.lit (.int 0)) (.cons (.lit (.int 1)) (.cons (.lit (.int 2)) (.cons (.lit (.int 3)) (.cons (.lit (.int 4)) (.cons (.lit (.int 5)) (.cons (.lit (.int 6)) (.cons (.lit (.int 7)) .nil)))))))))))
    (.seq (.for (.one 4) .rng2 (.lit (.int 6)) (.bin .min (.un .len (.var 0)) (.lit (.int 12)))
    (.seq (.asg 7 false (.bin .idx (.call "_law_term" (.cons (.call "_law_number" (.cons (.bin .idx (.var 0) (.var 4)) .nil)) (.cons (.lit (.int 2)) (.cons (.var 5) (.cons (.lst (.cons (.lit (.str "A")) (.cons (.lit (.str "B")) (.cons (.lit (.str "X")) .nil)))) .nil))))) (.lit (.int 0))))
    (.seq (.ite (.bin .le (.call "_law_size" (.cons (.var 7) .nil)) (.lit (.int 20)))
    (.seq (.asg 8 false (.call "_law_walk" (.cons (.var 6) (.cons (.var 7) (.cons (.sl (.var 3) .nix (.lit (.int 4))) .nil)))))
    (.seq (.asg 9 false (.call "_law_walk" (.cons (.var 6) (.cons (.var 7) (.cons (.sl (.var 3) (.lit (.int 4)) (.lit (.int 8))) .nil)))))
    (.seq (.ite (.or (.not (.call "_law_good" (.cons (.var 6) (.cons (.var 8) (.cons (.var 9) (.cons (.var 1) .nil)))))) (.one (.not (.call "_law_good" (.cons (.var 6) (.cons (.var 7) (.cons (.var 2) (.cons (.lit (.bl false)) .nil))))))))
    (.seq (.ret (.lit (.bl false)))
    .skip)
    .skip)
    (.seq (.asg 2 false (.var 7))
    .skip))))
    .skip)
    (.seq (.asg 3 false (.bin .add (.sl (.var 3) (.lit (.int 3)) .nix) (.sl (.var 3) .nix (.lit (.int 3)))))
    .skip))))
    (.seq (.ret (.lit (.bl true)))
    .skip))))))
def f_law_k44 : Fn := ⟨"law", ["_law_script", "_law_alike", "_law_last", "_law_cells", "_law_k", "_law_signs_here", "_law_rules_here", "_law_term_here", "_law_one", "_law_other"], [.sh], b_law_k44⟩

def b_chain_from_k45 : S := (.seq (.asg 2 true (.lst .nil))
    (.seq (.asg 3 false (.call "first_step" (.cons (.var 0) (.cons (.var 1) .nil))))
    (.seq (.wh 1000 (.un .notNone (.var 3))
    (.seq (.ite (.or (.bin .eq (.un .len (.own 2)) (.gl "MOST_STEPS" (.int 30))) (.one (.bin .gt (.call "parts_of" (.cons (.bin .idx (.var 3) (.lit (.int 2))) .nil)) (.gl "MOST_PARTS_steps" (.int 80)))))
    (.seq .never
    .skip)
    .skip)
    (.seq (.app 2 (.var 3))
    (.seq (.asg 3 false (.call "first_step" (.cons (.var 0) (.cons (.bin .idx (.var 3) (.lit (.int 2))) .nil))))
    .skip))))
    (.seq (.ret (.mv 2))
    .skip))))
def f_chain_from_k45 : Fn := ⟨"chain_from", ["rules", "term", "found", "step"], [.sh, .sh], b_chain_from_k45⟩

def b_nesting : S := (.seq (.ite (.un (.isK .str) (.var 0))
    (.seq (.ret (.lit (.int 1)))
    .skip)
    .skip)
    (.seq (.ret (.bin .add (.lit (.int 1)) (.un .max0 (.lc [("part", 1)] (.one 1) .seq (.sl (.var 0) (.lit (.int 1)) .nix) .nix (.lit (.bl true)) (.call "nesting" (.cons (.var 1) .nil))))))
    .skip))
def f_nesting : Fn := ⟨"nesting", ["term", "part"], [.sh], b_nesting⟩

def b_is_great : S := (.seq (.for (.one 1) .seq (.var 0) .nix
    (.seq (.ite (.or (.bin .gt (.call "parts_of" (.cons (.var 1) .nil)) (.gl "MOST_PARTS_more" (.int 12))) (.one (.bin .gt (.call "nesting" (.cons (.var 1) .nil)) (.gl "MOST_DEEP" (.int 6)))))
    (.seq (.ret (.lit (.bl true)))
    .skip)
    .skip)
    .skip))
    (.seq (.ret (.lit (.bl false)))
    .skip))
def f_is_great : Fn := ⟨"is_great", ["rule", "side"], [.sh], b_is_great⟩

def b_turned : S := (.seq (.ite (.call "above" (.cons (.var 0) (.cons (.var 1) (.cons (.var 2) .nil))))
    (.seq (.ret (.tup (.cons (.var 1) (.cons (.var 2) .nil))))
    .skip)
    .skip)
    (.seq (.ite (.call "above" (.cons (.var 0) (.cons (.var 2) (.cons (.var 1) .nil))))
    (.seq (.ret (.tup (.cons (.var 2) (.cons (.var 1) .nil))))
    .skip)
    .skip)
    (.seq (.ret (.lit .non))
    .skip)))
def f_turned : Fn := ⟨"turned", ["rank", "one", "other"], [.sh, .sh, .sh], b_turned⟩

def b_more : S := (.seq (.ex (.call "must_rules" (.cons (.var 0) (.cons (.lst .nil) .nil))))
    (.seq (.ite (.not (.call "goes_down" (.cons (.var 1) (.cons (.var 0) .nil))))
    (.seq .never
    .skip)
    .skip)
    (.seq (.asg 3 true (.un .list (.var 0)))
    (.seq (.asg 4 true (.lst .nil))
    (.seq (.wh 1000 (.lit (.bl true))
    (.seq (.asg 5 false (.call "judgement" (.cons (.fz 3) .nil)))
    (.seq (.ite (.bin .eq (.bin .idx (.var 5) (.lit (.int 0))) (.lit (.str "one end")))
    (.seq (.ret (.tup (.cons (.lit (.str "one end")) (.cons (.fz 3) (.cons (.fz 4) .nil)))))
    .skip)
    .skip)
    (.seq (.ite (.bin .eq (.un .len (.own 4)) (.var 2))
    (.seq (.ret (.tup (.cons (.lit (.str "enough")) (.cons (.fz 3) (.cons (.fz 4) .nil)))))
    .skip)
    .skip)
    (.seq (.asg 6 false (.call "turned" (.cons (.var 1) (.cons (.call "end_of" (.cons (.bin .idx (.bin .idx (.var 5) (.lit (.int 1))) (.lit (.int 4))) (.cons (.bin .idx (.var 5) (.lit (.int 2))) .nil))) (.cons (.call "end_of" (.cons (.bin .idx (.bin .idx (.var 5) (.lit (.int 1))) (.lit (.int 5))) (.cons (.bin .idx (.var 5) (.lit (.int 3))) .nil))) .nil)))))
    (.seq (.ite (.un .isNone (.var 6))
    (.seq (.ret (.tup (.cons (.lit (.str "unlike")) (.cons (.fz 3) (.cons (.fz 4) .nil)))))
    .skip)
    .skip)
    (.seq (.ite (.call "is_great" (.cons (.var 6) .nil))
    (.seq (.ret (.tup (.cons (.lit (.str "great")) (.cons (.fz 3) (.cons (.fz 4) .nil)))))
    .skip)
    .skip)
    (.seq (.app 3 (.var 6))
    (.seq (.app 4 (.bin .idx (.var 5) (.lit (.int 1))))
    .skip)))))))))
    .skip)))))
def f_more : Fn := ⟨"more", ["rules", "rank", "count", "found", "why", "told", "rule"], [.sh, .sh, .sh], b_more⟩

def b__law_faulty : S := (.seq (.asgT [4, 5] (.var 0))
    (.seq (.asg 3 false (.bin .mod (.var 1) (.lit (.int 4))))
    (.seq (.ite (.or (.bin .eq (.var 3) (.lit (.int 0))) (.or (.bin .gt (.call "_law_size" (.cons (.var 4) .nil)) (.lit (.int 10))) (.one (.bin .gt (.call "_law_size" (.cons (.var 5) .nil)) (.lit (.int 8))))))
    (.seq (.ret (.tup (.cons (.bin .idx (.lit (.str "XYZ")) (.bin .mod (.bin .fdiv (.var 1) (.lit (.int 4))) (.lit (.int 3)))) (.cons (.var 5) .nil))))
    .skip)
    .skip)
    (.seq (.ite (.bin .eq (.var 3) (.lit (.int 1)))
    (.seq (.ret (.tup (.cons (.var 4) (.cons (.tup (.cons (.bin .idx (.bin .idx (.var 2) (.lit (.int 2))) (.lit (.int 0))) (.cons (.var 5) (.cons (.lit (.str "Q")) .nil)))) .nil))))
    .skip)
    .skip)
    (.seq (.ite (.bin .eq (.var 3) (.lit (.int 2)))
    (.seq (.ret (.tup (.cons (.var 4) (.cons (.tup (.cons (.bin .idx (.bin .idx (.var 2) (.bin .mod (.bin .fdiv (.var 1) (.lit (.int 4))) (.lit (.int 3)))) (.lit (.int 0))) (.cons (.tup (.cons (.bin .idx (.bin .idx (.var 2) (.lit (.int 0))) (.lit (.int 0))) .nil)) (.cons (.tup (.cons (.bin .idx (.bin .idx (.var 2) (.lit (.int 0))) (.lit (.int 0))) .nil)) (.cons (.tup (.cons (.bin .idx (.bin .idx (.var 2) (.lit (.int 0))) (.lit (.int 0))) .nil)) .nil))))) .nil))))
    .skip)
    .skip)
    (.seq (.ret (.tup (.cons (.tup (.cons (.bin .idx (.bin .idx (.var 2) (.lit (.int 0))) (.lit (.int 0))) (.cons (.var 4) .nil))) (.cons (.var 5) .nil))))
    .skip))))))
def f__law_faulty : Fn := ⟨"_law_faulty", ["_law_rule_here", "_law_cell_here", "_law_signs_here", "_law_kind_here", "_law_left", "_law_right"], [.sh, .sh, .sh], b__law_faulty⟩

def b_law_k45 : S := (.seq (.asgT [3, 4] (.call "_law_rules" (.cons (.var 0) (.cons (.lit (.int 4)) .nil))))
    (.seq (.asg 1 false (.lc [("_law_sign", 10), ("_law_count", 11)] (.many [10, 11]) .seq (.var 3) .nix (.lit (.bl true)) (.var 10)))
    (.seq (.ite (.bin .eq (.var 4) (.lst .nil))
    (.seq (.asg 4 false (.lst (.cons (.call "_law_menu" (.cons (.var 3) (.cons (.lit (.int 3)) .nil))) .nil)))
    .skip)
    .skip)
    (.seq (.for (.one 2) .seq (.bin .add (.lst (.cons (.lit (.int 0)) (.cons (.lit (.int 3)) (.cons (.lit (.int 8)) (.cons (.lit (.int 13)) .nil))))) (.sl (.var 0) (.lit (.int 6)) (.lit (.int 26)))) .nix
    (.seq (.asg 5 true (.un .list (.var 4)))
    (.seq (.ite (.bin .eq (.bin .mod (.var 2) (.lit (.int 2))) (.lit (.int 1)))
    (.seq (.for (.one 9) .seq (.sl (.lst (.cons (.bin .fdiv (.var 2) (.lit (.int 12))) (.cons (.bin .fdiv (.var 2) (.lit (.int 240))) .nil))) .nix (.bin .add (.lit (.int 1)) (.bin .mod (.bin .fdiv (.var 2) (.lit (.int 2))) (.lit (.int 2))))) .nix
    (.seq (.asg 12 false (.bin .mod (.var 9) (.un .len (.own 5))))
    (.seq (.setI 5 (.var 12) (.call "_law_faulty" (.cons (.bin .idx (.own 5) (.var 12)) (.cons (.bin .fdiv (.var 9) (.lit (.int 5))) (.cons (.var 3) .nil)))))
    .skip)))
    .skip)
    .skip)
    (.seq (.asg 6 false (.lst (.cons (.tup (.cons (.bin .idx (.bin .idx (.var 3) (.lit (.int 1))) (.lit (.int 0))) (.cons (.lit (.str "A")) .nil))) (.cons (.bin .idx (.lst (.cons (.tup (.cons (.bin .idx (.bin .idx (.var 3) (.lit (.int 2))) (.lit (.int 0))) (.cons (.lit (.str "A")) (.cons (.lit (.str "B")) .nil)))) (.cons (.tup (.cons (.bin .idx (.bin .idx (.var 3) (.lit (.int 1))) (.lit (.int 0))) .nil)) (.cons (.lit (.str "C")) .nil)))) (.bin .mod (.bin .fdiv (.var 2) (.lit (.int 4))) (.lit (.int 3)))) .nil))))
    (.seq (.ite (.bin .eq (.bin .mod (.bin .fdiv (.var 2) (.lit (.int 5))) (.lit (.int 2))) (.lit (.int 1)))
    (.seq (.asg 6 false (.sl (.var 6) .nix .nix))
    .skip)
    .skip)
    (.seq (.asg 7 false (.bin .mod (.bin .fdiv (.var 2) (.lit (.int 2))) (.lit (.int 6))))
    (.seq (.asg 8 false (.bin .idx (.lst (.cons (.lst .nil) (.cons (.var 6) .nil))) (.un .int (.bin .inn (.var 7) (.lst (.cons (.lit (.int 3)) (.cons (.lit (.int 5)) .nil)))))))
    (.seq (.ite (.bin .ne (.call "_law_kind" (.cons (.call "_law_asked" (.cons (.var 7) (.cons (.fz 5) (.cons (.var 6) (.cons (.var 1) .nil))))) .nil)) (.call "_law_due" (.cons (.fz 5) (.cons (.var 8) .nil))))
    (.seq (.ret (.lit (.bl false)))
    .skip)
    .skip)
    .skip))))))))
    (.seq (.ret (.and (.call "_law_made" (.cons (.bin .idx (.var 4) (.lit (.int 0))) .nil)) (.one (.un .isNone (.call "must_rules" (.cons (.var 4) (.cons (.lst .nil) .nil)))))))
    .skip)))))
def f_law_k45 : Fn := ⟨"law", ["_law_script", "_law_rank", "_law_cell_here", "_law_signs_here", "_law_good", "_law_rules_here", "_law_terms", "_law_way", "_law_beside", "_law_far", "_law_sign", "_law_count", "_law_at"], [.sh], b_law_k45⟩

def b__law_unlike : S := (.seq (.for (.one 1) .seq (.call "overlaps" (.cons (.var 0) .nil)) .nix
    (.seq (.asg 2 true (.lst .nil))
    (.seq (.for (.one 3) .seq (.lst (.cons (.bin .idx (.var 1) (.lit (.int 4))) (.cons (.bin .idx (.var 1) (.lit (.int 5))) .nil))) .nix
    (.seq (.asg 4 false (.call "_law_chain" (.cons (.var 0) (.cons (.var 3) .nil))))
    (.seq (.ite (.un .isNone (.var 4))
    (.seq (.ret (.lst (.cons (.lit (.str "long")) (.cons (.var 3) .nil))))
    .skip)
    .skip)
    (.seq (.app 2 (.call "_law_end" (.cons (.var 3) (.cons (.var 4) .nil))))
    .skip))))
    (.seq (.ite (.bin .ne (.bin .idx (.own 2) (.lit (.int 0))) (.bin .idx (.own 2) (.lit (.int 1))))
    (.seq (.ret (.lst (.cons (.lit (.str "two")) (.cons (.var 1) (.cons (.bin .idx (.own 2) (.lit (.int 0))) (.cons (.bin .idx (.own 2) (.lit (.int 1))) .nil))))))
    .skip)
    .skip)
    .skip))))
    (.seq (.ret (.lst (.cons (.lit (.str "one")) .nil)))
    .skip))
def f__law_unlike : Fn := ⟨"_law_unlike", ["_law_rules_here", "_law_one", "_law_ends", "_law_term_here", "_law_row"], [.sh], b__law_unlike⟩

def b__law_due_k51 : S := (.seq (.for (.many [5, 6]) .seq (.var 0) .nix
    (.seq (.ite (.not (.call "_law_above" (.cons (.var 1) (.cons (.var 5) (.cons (.var 6) .nil)))))
    (.seq (.ret (.lst (.cons (.lit (.str "no rank")) (.cons (.var 0) .nil))))
    .skip)
    .skip)
    .skip))
    (.seq (.asg 3 true (.un .list (.var 0)))
    (.seq (.asg 4 true (.lst .nil))
    (.seq (.wh 1000 (.lit (.bl true))
    (.seq (.asg 7 false (.call "_law_unlike" (.cons (.fz 3) .nil)))
    (.seq (.ite (.bin .eq (.bin .idx (.var 7) (.lit (.int 0))) (.lit (.str "long")))
    (.seq (.ret (.var 7))
    .skip)
    .skip)
    (.seq (.ite (.bin .eq (.bin .idx (.var 7) (.lit (.int 0))) (.lit (.str "one")))
    (.seq (.ret (.lst (.cons (.lit (.str "told")) (.cons (.tup (.cons (.lit (.str "one end")) (.cons (.fz 3) (.cons (.fz 4) .nil)))) .nil))))
    .skip)
    .skip)
    (.seq (.ite (.bin .eq (.un .len (.own 4)) (.var 2))
    (.seq (.ret (.lst (.cons (.lit (.str "told")) (.cons (.tup (.cons (.lit (.str "enough")) (.cons (.fz 3) (.cons (.fz 4) .nil)))) .nil))))
    .skip)
    .skip)
    (.seq (.asg 8 false (.tup (.cons (.bin .idx (.var 7) (.lit (.int 2))) (.cons (.bin .idx (.var 7) (.lit (.int 3))) .nil))))
    (.seq (.ite (.not (.call "_law_above" (.cons (.var 1) (.cons (.bin .idx (.var 8) (.lit (.int 0))) (.cons (.bin .idx (.var 8) (.lit (.int 1))) .nil)))))
    (.seq (.asg 8 false (.tup (.cons (.bin .idx (.var 7) (.lit (.int 3))) (.cons (.bin .idx (.var 7) (.lit (.int 2))) .nil))))
    .skip)
    .skip)
    (.seq (.ite (.not (.call "_law_above" (.cons (.var 1) (.cons (.bin .idx (.var 8) (.lit (.int 0))) (.cons (.bin .idx (.var 8) (.lit (.int 1))) .nil)))))
    (.seq (.ret (.lst (.cons (.lit (.str "told")) (.cons (.tup (.cons (.lit (.str "unlike")) (.cons (.fz 3) (.cons (.fz 4) .nil)))) .nil))))
    .skip)
    .skip)
    (.seq (.ite (.or (.bin .gt (.bin .max (.call "_law_size" (.cons (.bin .idx (.var 8) (.lit (.int 0))) .nil)) (.call "_law_size" (.cons (.bin .idx (.var 8) (.lit (.int 1))) .nil))) (.lit (.int 12))) (.one (.bin .gt (.bin .max (.call "_law_deep" (.cons (.bin .idx (.var 8) (.lit (.int 0))) .nil)) (.call "_law_deep" (.cons (.bin .idx (.var 8) (.lit (.int 1))) .nil))) (.lit (.int 6)))))
    (.seq (.ret (.lst (.cons (.lit (.str "told")) (.cons (.tup (.cons (.lit (.str "great")) (.cons (.fz 3) (.cons (.fz 4) .nil)))) .nil))))
    .skip)
    .skip)
    (.seq (.app 3 (.var 8))
    (.seq (.app 4 (.bin .idx (.var 7) (.lit (.int 1))))
    .skip)))))))))))
    .skip))))
def f__law_due_k51 : Fn := ⟨"_law_due", ["_law_rules_here", "_law_rank", "_law_count", "_law_made", "_law_why", "_law_left", "_law_right", "_law_found", "_law_rule_here"], [.sh, .sh, .sh], b__law_due_k51⟩

def b__law_fixed : S := (.seq (.asgT [4, 5, 6, 7] (.lc [("_law_sign", 8), ("_law_count", 9)] (.many [8, 9]) .seq (.var 0) .nix (.lit (.bl true)) (.var 8)))
    (.seq (.asg 1 false (.lst (.cons (.var 7) (.cons (.var 4) (.cons (.var 6) (.cons (.var 5) .nil))))))
    (.seq (.asg 2 false (.lst (.cons (.tup (.cons (.tup (.cons (.var 5) (.cons (.tup (.cons (.var 6) (.cons (.lit (.str "X")) (.cons (.lit (.str "Y")) .nil)))) .nil))) (.cons (.tup (.cons (.var 6) (.cons (.lit (.str "X")) (.cons (.lit (.str "Y")) .nil)))) .nil))) (.cons (.tup (.cons (.tup (.cons (.var 5) (.cons (.tup (.cons (.var 6) (.cons (.lit (.str "X")) (.cons (.lit (.str "Y")) .nil)))) .nil))) (.cons (.tup (.cons (.var 6) (.cons (.lit (.str "Y")) (.cons (.lit (.str "X")) .nil)))) .nil))) .nil))))
    (.seq (.asg 3 false (.lst (.cons (.tup (.cons (.tup (.cons (.var 5) (.cons (.lit (.str "N")) .nil))) (.cons (.tup (.cons (.var 6) (.cons (.lit (.str "N")) (.cons (.tup (.cons (.var 6) (.cons (.lit (.str "N")) (.cons (.tup (.cons (.var 6) (.cons (.lit (.str "N")) (.cons (.tup (.cons (.var 6) (.cons (.lit (.str "N")) (.cons (.lit (.str "N")) .nil)))) .nil)))) .nil)))) .nil)))) .nil))) (.cons (.tup (.cons (.tup (.cons (.var 5) (.cons (.tup (.cons (.var 6) (.cons (.lit (.str "N")) (.cons (.lit (.str "M")) .nil)))) .nil))) (.cons (.tup (.cons (.var 4) .nil)) .nil))) .nil))))
    (.seq (.ite (.or (.bin .ne (.call "_law_asked" (.cons (.var 2) (.cons (.var 1) (.cons (.lit (.int 2)) .nil)))) (.tup (.cons (.lit (.str "unlike")) (.cons (.var 2) (.cons (.lst .nil) .nil))))) (.one (.bin .ne (.call "_law_asked" (.cons (.var 3) (.cons (.var 1) (.cons (.lit (.int 1)) .nil)))) (.tup (.cons (.lit (.str "great")) (.cons (.var 3) (.cons (.lst .nil) .nil)))))))
    (.seq (.ret (.lit (.bl false)))
    .skip)
    .skip)
    (.seq (.ret (.bin .eq (.call "_law_asked" (.cons (.lst .nil) (.cons (.var 1) (.cons (.lit (.int 2)) .nil)))) (.tup (.cons (.lit (.str "one end")) (.cons (.lst .nil) (.cons (.lst .nil) .nil))))))
    .skip))))))
def f__law_fixed : Fn := ⟨"_law_fixed", ["_law_signs_here", "_law_rank", "_law_pairs", "_law_grown", "_law_a", "_law_f", "_law_g", "_law_rest", "_law_sign", "_law_count"], [.sh], b__law_fixed⟩

def b__law_shown : S := (.seq (.asgT [6, 7, 8, 9, 10, 11] (.var 2))
    (.seq (.asg 3 false (.call "_law_steps" (.cons (.var 0) (.cons (.var 9) .nil))))
    (.seq (.ite (.or (.bin .nin (.tup (.cons (.tup .nil) (.cons (.var 6) (.cons (.var 10) .nil)))) (.var 3)) (.one (.bin .nin (.tup (.cons (.var 8) (.cons (.var 7) (.cons (.var 11) .nil)))) (.var 3))))
    (.seq (.ret (.lit (.bl false)))
    .skip)
    .skip)
    (.seq (.asg 4 true (.lst .nil))
    (.seq (.for (.one 5) .seq (.lst (.cons (.var 10) (.cons (.var 11) .nil))) .nix
    (.seq (.asg 12 false (.call "_law_chain" (.cons (.var 0) (.cons (.var 5) .nil))))
    (.seq (.ite (.un .isNone (.var 12))
    (.seq (.ret (.lit (.bl false)))
    .skip)
    .skip)
    (.seq (.app 4 (.call "_law_end" (.cons (.var 5) (.cons (.var 12) .nil))))
    .skip))))
    (.seq (.ret (.or (.bin .eq (.own 4) (.lst (.cons (.bin .idx (.var 1) (.lit (.int 0))) (.cons (.bin .idx (.var 1) (.lit (.int 1))) .nil)))) (.one (.bin .eq (.own 4) (.lst (.cons (.bin .idx (.var 1) (.lit (.int 1))) (.cons (.bin .idx (.var 1) (.lit (.int 0))) .nil)))))))
    .skip))))))
def f__law_shown : Fn := ⟨"_law_shown", ["_law_rules_here", "_law_rule_here", "_law_reason", "_law_fork", "_law_ends", "_law_term_here", "_law_k", "_law_j", "_law_place", "_law_peak", "_law_upper", "_law_lower", "_law_row"], [.sh, .sh, .sh], b__law_shown⟩

def b__law_walk_k52 : S := (.seq (.for (.one 3) .seq (.var 2) .nix
    (.seq (.asg 4 false (.call "_law_steps" (.cons (.var 0) (.cons (.var 1) .nil))))
    (.seq (.ite (.and (.bin .ne (.var 4) (.lst .nil)) (.one (.bin .le (.call "_law_size" (.cons (.bin .idx (.bin .idx (.var 4) (.bin .mod (.var 3) (.un .len (.var 4)))) (.lit (.int 2))) .nil)) (.lit (.int 40)))))
    (.seq (.asg 1 false (.bin .idx (.bin .idx (.var 4) (.bin .mod (.var 3) (.un .len (.var 4)))) (.lit (.int 2))))
    .skip)
    .skip)
    .skip)))
    (.seq (.ret (.var 1))
    .skip))
def f__law_walk_k52 : Fn := ⟨"_law_walk", ["_law_rules_here", "_law_term_here", "_law_cells", "_law_cell_here", "_law_more_steps"], [.sh, .sh, .sh], b__law_walk_k52⟩

end Sh
end

section
set_option Elab.async false
set_option linter.all false
set_option maxRecDepth 100000
set_option maxHeartbeats 1000000
namespace Pu
open En PySem

/-! ### numbers -/
theorem dv2 : divOk 2 = true := by decide +kernel
theorem dv3 : divOk 3 = true := by decide +kernel
theorem dv4 : divOk 4 = true := by decide +kernel
theorem dv5 : divOk 5 = true := by decide +kernel
theorem dv7 : divOk 7 = true := by decide +kernel
theorem dv10 : divOk 10 = true := by decide +kernel
theorem dv11 : divOk 11 = true := by decide +kernel
theorem dv12 : divOk 12 = true := by decide +kernel
theorem dv20 : divOk 20 = true := by decide +kernel
theorem dv26 : divOk 26 = true := by decide +kernel
theorem u_neg {i : Int} : op1 .neg (.int i) = some (.sh, .int (-i)) := Eq.trans rfl rfl
theorem u_lenL {ds : List D} : op1 .len (.lst ds) = some (.sh, .int ds.length) := Eq.trans rfl rfl
theorem u_lenT {ds : List D} : op1 .len (.tup ds) = some (.sh, .int ds.length) := Eq.trans rfl rfl
theorem u_lenS {x : Str} (h : x.length ≤ sizeLine) : op1 .len (.str x) = some (.sh, .int x.length) := if_pos h
theorem u_listL {ds : List D} : op1 .list (.lst ds) = some (.fr, .lst ds) := Eq.trans rfl rfl
theorem u_listT {ds : List D} : op1 .list (.tup ds) = some (.fr, .lst ds) := Eq.trans rfl rfl
theorem u_tupL {ds : List D} : op1 .tuple (.lst ds) = some (.sh, .tup ds) := Eq.trans rfl rfl
theorem u_tupT {ds : List D} : op1 .tuple (.tup ds) = some (.sh, .tup ds) := Eq.trans rfl rfl
theorem u_sum {ds : List D} : op1 .sum (.lst ds) = (ints? ds).map fun ns => (.sh, .int ns.sum) := Eq.trans rfl rfl
theorem u_abs {i : Int} : op1 .abs (.int i) = some (.sh, .int (if i < 0 then -i else i)) := Eq.trans rfl rfl
theorem u_all {ds : List D} : op1 .all (.lst ds) = (bls? ds).map fun bs => (.sh, .bl (bs.all id)) := Eq.trans rfl rfl
theorem u_isK {k : Kd} {d : D} : op1 (.isK k) d = (kdOf k d).map fun b => (.sh, .bl b) := Eq.trans rfl rfl
theorem u_join {ds : List D} : op1 .join (.lst ds) = ((strs? ds).bind fun xs => if lenAll xs ≤ 16777216 then some (.sh, .str (joinS xs)) else none) := Eq.trans rfl rfl
theorem kd_str_tup : (Kd.str == Kd.tup) = false := Eq.trans rfl rfl
theorem kd_str_lst : (Kd.str == Kd.lst) = false := Eq.trans rfl rfl
theorem kd_str_dic : (Kd.str == Kd.dic) = false := Eq.trans rfl rfl
theorem kd_str_int : (Kd.str == Kd.int) = false := Eq.trans rfl rfl
theorem kd_str_bl : (Kd.str == Kd.bl) = false := Eq.trans rfl rfl
theorem kd_tup_str : (Kd.tup == Kd.str) = false := Eq.trans rfl rfl
theorem kd_tup_lst : (Kd.tup == Kd.lst) = false := Eq.trans rfl rfl
theorem kd_tup_dic : (Kd.tup == Kd.dic) = false := Eq.trans rfl rfl
theorem kd_tup_int : (Kd.tup == Kd.int) = false := Eq.trans rfl rfl
theorem kd_tup_bl : (Kd.tup == Kd.bl) = false := Eq.trans rfl rfl
theorem kd_lst_str : (Kd.lst == Kd.str) = false := Eq.trans rfl rfl
theorem kd_lst_tup : (Kd.lst == Kd.tup) = false := Eq.trans rfl rfl
theorem kd_lst_dic : (Kd.lst == Kd.dic) = false := Eq.trans rfl rfl
theorem kd_lst_int : (Kd.lst == Kd.int) = false := Eq.trans rfl rfl
theorem kd_lst_bl : (Kd.lst == Kd.bl) = false := Eq.trans rfl rfl
theorem kd_dic_str : (Kd.dic == Kd.str) = false := Eq.trans rfl rfl
theorem kd_dic_tup : (Kd.dic == Kd.tup) = false := Eq.trans rfl rfl
theorem kd_dic_lst : (Kd.dic == Kd.lst) = false := Eq.trans rfl rfl
theorem kd_dic_int : (Kd.dic == Kd.int) = false := Eq.trans rfl rfl
theorem kd_dic_bl : (Kd.dic == Kd.bl) = false := Eq.trans rfl rfl
theorem kd_int_str : (Kd.int == Kd.str) = false := Eq.trans rfl rfl
theorem kd_int_tup : (Kd.int == Kd.tup) = false := Eq.trans rfl rfl
theorem kd_int_lst : (Kd.int == Kd.lst) = false := Eq.trans rfl rfl
theorem kd_int_dic : (Kd.int == Kd.dic) = false := Eq.trans rfl rfl
theorem kd_int_bl : (Kd.int == Kd.bl) = false := Eq.trans rfl rfl
theorem kd_bl_str : (Kd.bl == Kd.str) = false := Eq.trans rfl rfl
theorem kd_bl_tup : (Kd.bl == Kd.tup) = false := Eq.trans rfl rfl
theorem kd_bl_lst : (Kd.bl == Kd.lst) = false := Eq.trans rfl rfl
theorem kd_bl_dic : (Kd.bl == Kd.dic) = false := Eq.trans rfl rfl
theorem kd_bl_int : (Kd.bl == Kd.int) = false := Eq.trans rfl rfl
theorem o_add {a b : D} : op2 .add a b = opAdd a b := Eq.trans rfl rfl
theorem o_sub {i j : Int} : op2 .sub (.int i) (.int j) = some (.sh, .int (i - j)) := Eq.trans rfl rfl
theorem o_mul {i j : Int} (h : mulOk i j = true) : op2 .mul (.int i) (.int j) = some (.sh, .int (i * j)) := if_pos h
theorem o_div {i j : Int} (h : divOk j = true) : op2 .fdiv (.int i) (.int j) = some (.sh, .int (i / j)) := if_pos h
theorem o_mod {i j : Int} (h : 0 < j) : op2 .mod (.int i) (.int j) = some (.sh, .int (i % j)) := if_pos (decide_eq_true h)
theorem o_pow {i j : Int} (h : powOk i j = true) : op2 .pow (.int i) (.int j) = some (.sh, .int (i ^ j.toNat)) := if_pos h
theorem o_eq {a b : D} (h1 : a.eqOk = true) (h2 : b.eqOk = true) : op2 .eq a b = some (.sh, .bl (a.eq b)) := by unfold op2; rw [h1, h2]; rfl
theorem o_ne {a b : D} (h1 : a.eqOk = true) (h2 : b.eqOk = true) : op2 .ne a b = some (.sh, .bl (!a.eq b)) := by unfold op2; rw [h1, h2]; rfl
theorem o_lt {i j : Int} : op2 .lt (.int i) (.int j) = some (.sh, .bl (decide (i < j))) := Eq.trans rfl rfl
theorem o_le {i j : Int} : op2 .le (.int i) (.int j) = some (.sh, .bl (decide (i ≤ j))) := Eq.trans rfl rfl
theorem o_gt {i j : Int} : op2 .gt (.int i) (.int j) = some (.sh, .bl (decide (j < i))) := Eq.trans rfl rfl
theorem o_ge {a b : D} : op2 .ge a b = opGe a b := Eq.trans rfl rfl
theorem o_idx {a b : D} : op2 .idx a b = opIdx a b := Eq.trans rfl rfl
theorem o_max {i j : Int} : op2 .max (.int i) (.int j) = some (.sh, .int (maxI i j)) := Eq.trans rfl rfl
theorem o_min {i j : Int} : op2 .min (.int i) (.int j) = some (.sh, .int (minI i j)) := Eq.trans rfl rfl
theorem mul_r {i j : Int} (h1 : -(2 ^ 64) < j) (h2 : j < 2 ^ 64) : mulOk i j = true := by
  unfold mulOk
  rw [decide_eq_true h1, decide_eq_true h2]; simp
theorem mul_l {i j : Int} (h1 : -(2 ^ 64) < i) (h2 : i < 2 ^ 64) : mulOk i j = true := by
  unfold mulOk
  rw [decide_eq_true h1, decide_eq_true h2]; simp
theorem mu1 (i : Int) : mulOk i 1000000007 = true := mul_r (by decide) (by decide)
theorem mu5 (i : Int) : mulOk 5 i = true := mul_l (by decide) (by decide)
theorem mu7 (i : Int) : mulOk 7 i = true := mul_l (by decide) (by decide)
theorem pw1 : powOk 10 18 = true := by decide +kernel

theorem eqOk_int (i : Int) : (D.int i).eqOk = true := rfl
theorem eq_int (i j : Int) : D.eq (.int i) (.int j) = decide (i = j) := by
  show (i == j) = _
  by_cases h : i = j <;> simp [h]
theorem o_eqI {i j : Int} : op2 .eq (.int i) (.int j) = some (.sh, .bl (decide (i = j))) := by rw [o_eq (eqOk_int i) (eqOk_int j), eq_int]
theorem o_neI {i j : Int} : op2 .ne (.int i) (.int j) = some (.sh, .bl (!decide (i = j))) := by rw [o_ne (eqOk_int i) (eqOk_int j), eq_int]

/-! ### terms -/
inductive Tm where
  | bl (s : Str)
  | nd (s : Str) (ps : List Tm)
instance : Inhabited Tm := ⟨.bl ⟨#[]⟩⟩
mutual
def toD : Tm → D
  | .bl s => .str s
  | .nd s ps => .tup (.str s :: toDs ps)
def toDs : List Tm → List D
  | [] => []
  | t :: ts => toD t :: toDs ts
end
mutual
def dep : Tm → Nat
  | .bl _ => 1
  | .nd _ ps => 1 + deps ps
def deps : List Tm → Nat
  | [] => 0
  | t :: ts => max (dep t) (deps ts)
end
mutual
def parts : Tm → Nat
  | .bl _ => 1
  | .nd _ ps => 1 + partss ps
def partss : List Tm → Nat
  | [] => 0
  | t :: ts => parts t + partss ts
end
mutual
def places : Tm → List (List Nat)
  | .bl _ => [[]]
  | .nd _ ps => [] :: placess 0 ps
def placess : Nat → List Tm → List (List Nat)
  | _, [] => []
  | k, t :: ts => (places t).map (k :: ·) ++ placess (k + 1) ts
end
def kids : Tm → List Tm
  | .bl _ => []
  | .nd _ ps => ps
theorem toDs_map : ∀ ts, toDs ts = ts.map toD
  | [] => rfl
  | t :: ts => by rw [toDs, toDs_map ts]; rfl
theorem partss_sum : ∀ ts, partss ts = (ts.map parts).sum
  | [] => rfl
  | t :: ts => by rw [partss, partss_sum ts]; rfl
theorem dep_mem : ∀ {ts : List Tm} {t : Tm}, t ∈ ts → dep t ≤ deps ts
  | u :: ts, t, h => by
    rw [deps]
    rcases List.mem_cons.mp h with e | e
    · subst e; omega
    · have := dep_mem e; omega
theorem dep_kid {t u : Tm} (h : u ∈ kids t) : dep u < dep t := by
  cases t with
  | bl s => cases h
  | nd s ps => have := dep_mem (ts := ps) h; rw [dep]; omega
theorem parts_mem : ∀ {ts : List Tm} {t : Tm}, t ∈ ts → parts t ≤ partss ts
  | u :: ts, t, h => by
    rw [partss]
    rcases List.mem_cons.mp h with e | e
    · subst e; omega
    · have := parts_mem e; omega
theorem parts_pos (t : Tm) : 0 < parts t := by cases t <;> rw [parts] <;> omega
theorem len_partss : ∀ ts : List Tm, ts.length ≤ partss ts
  | [] => by simp [partss]
  | t :: ts => by rw [partss, List.length_cons]; have := len_partss ts; have := parts_pos t; omega
mutual
theorem places_len : ∀ t, (places t).length = parts t
  | .bl s => rfl
  | .nd s ps => by rw [places, parts, List.length_cons, placess_len 0 ps]; omega
theorem placess_len : ∀ k ts, (placess k ts).length = partss ts
  | _, [] => rfl
  | k, t :: ts => by rw [placess, partss, List.length_append, List.length_map, places_len t, placess_len (k + 1) ts]
end

theorem take_map_len {α β : Type} (f : α → β) (xs : List α) : List.take xs.length (xs.map f) = xs.map f := by
  rw [List.take_of_length_le]; simp

theorem kids_len (t : Tm) : (kids t).length < parts t := by
  cases t with
  | bl s => simp [kids, parts]
  | nd s ps => have := len_partss ps; simp [kids, parts]; omega
theorem parts_kids (t : Tm) : parts t = 1 + ((kids t).map parts).sum := by
  cases t with
  | bl s => rfl
  | nd s ps => rw [parts, partss_sum]; rfl
theorem parts_kid {t u : Tm} (hu : u ∈ kids t) : parts u < parts t := by
  cases t with
  | bl s => cases hu
  | nd s ps => have := parts_mem (ts := ps) hu; rw [parts]; omega

/-! ### comprehensions, loops -/
theorem filter_true {α : Type} (xs : List α) : xs.filter (fun _ => true) = xs := List.filter_eq_self.mpr fun _ _ => rfl
theorem setset {env : En.Env} {i : Nat} {a b : Option (Sm × D)} : (env.set i a).set i b = env.set i b := by simp
theorem set_self {env : En.Env} {i : Nat} (hi : env[i]? = some none) : env.set i none = env := by
  apply List.ext_getElem?
  intro j
  rw [List.getElem?_set]
  split
  · rename_i e; subst e
    rw [hi]
    have := (List.getElem?_eq_some_iff.mp hi).1
    simp [this]
  · rfl
/-- a comprehension over one name -/
theorem lcL_map {α : Type} {f g : En.Env → R Val} {i : Nat} {env : En.Env} (X : α → D) (c : α → Bool) (G : α → D) (hi : env[i]? = some none) :
    ∀ (xs : List α) (acc : List D), (∀ x ∈ xs, f (env.set i (some (.sh, X x))) = .ok (.sh, .bl (c x)) (env.set i (some (.sh, X x)))) →
      (∀ x ∈ xs, c x = true → ∃ m, (m = .sh ∨ m = .fr) ∧ g (env.set i (some (.sh, X x))) = .ok (m, G x) (env.set i (some (.sh, X x)))) → acc.length + xs.length ≤ sizeLine →
      lcL f g (.one i) [i] (xs.map X) acc env = .ok (acc ++ (xs.filter c).map G) env := by
  have il := (List.getElem?_eq_some_iff.mp hi).1
  intro xs
  induction xs with
  | nil => intro acc _ _ _; simp [lcL]
  | cons x xs ih =>
    intro acc hf hg hl
    have h1 := hf x (.head _)
    have b1 : bindTg (.one i) (X x) env = some (env.set i (some (.sh, X x))) := by
      have g0 : getS env i = none := by unfold getS; rw [hi]; rfl
      simp [bindTg, bind1, isMu, g0, il, setS]
    rw [List.map_cons, lcL]
    simp only [b1, h1, R.hard_ok, R.bind_ok]
    have ow : ∀ v : D, isOw (env.set i (some (Sm.sh, v))) i = false := fun v => by simp [isOw, getS, il]
    have wp : ∀ v : Option (Sm × D), wipeE (env.set i v) [i] = env := fun v => by
      simp only [wipeE, setset]; exact set_self hi
    cases hc : c x with
    | true =>
      obtain ⟨m, hm, h2⟩ := hg x (.head _) hc
      have lo : low (m, G x) = some (G x) := by rcases hm with rfl | rfl <;> rfl
      have sz : szOk (acc.length + 1) = true := decide_eq_true (by simp at hl; omega)
      simp only [h2, R.hard_ok, R.bind_ok, lo, sz, List.any_cons, List.any_nil, ow, Bool.or_false, Bool.not_false, Bool.and_self, if_true, wp]
      rw [ih (acc ++ [G x]) (fun y hy => hf y (.tail _ hy)) (fun y hy => hg y (.tail _ hy)) (by simp at hl ⊢; omega)]
      simp [hc]
    | false =>
      simp only [List.any_cons, List.any_nil, ow, Bool.or_false, Bool.not_false, if_true, wp]
      rw [ih acc (fun y hy => hf y (.tail _ hy)) (fun y hy => hg y (.tail _ hy)) (by simp at hl ⊢; omega)]
      simp [hc]
/-- the whole comprehension -/
theorem e_lcF {α : Type} {C : Calls} {nm : Str} {i : Nat} {k : ItK} {a b c e : E} {env env1 : En.Env} (xs : List α) (X : α → D) (cd : α → Bool) (G : α → D) (h1 : evI (evE C a) (evE C b) k env = .ok (xs.map X) env1) (ho : isOw env1 i = false) (il : i < env1.length)
    (hf : ∀ x ∈ xs, evE C c (env1.set i (some (.sh, X x))) = .ok (.sh, .bl (cd x)) (env1.set i (some (.sh, X x))))
    (hg : ∀ x ∈ xs, cd x = true → ∃ m, (m = .sh ∨ m = .fr) ∧ evE C e (env1.set i (some (.sh, X x))) = .ok (m, G x) (env1.set i (some (.sh, X x)))) (hl : xs.length ≤ sizeLine) :
    evE C (.lc [(nm, i)] (.one i) k a b c e) env = .ok (.fr, .lst ((xs.filter cd).map G)) (env1.set i none) := by
  refine e_lc h1 (by simp only [List.map_cons, List.map_nil, List.any_cons, List.any_nil, ho, Bool.or_false]) ?_
  show lcL _ _ _ [i] _ [] (env1.set i none) = _
  have := lcL_map (f := evE C c) (g := evE C e) (i := i) (env := env1.set i none) X cd G (by rw [List.getElem?_set]; simp [il]) xs [] (fun x hx => by rw [setset]; exact hf x hx) (fun x hx hc => by rw [setset]; exact hg x hx hc) (by simpa using hl)
  rw [this]; rfl
theorem e_lcM {α : Type} {C : Calls} {nm : Str} {i : Nat} {k : ItK} {a b e : E} {env env1 : En.Env} (xs : List α) (X : α → D) (G : α → D) (h1 : evI (evE C a) (evE C b) k env = .ok (xs.map X) env1) (ho : isOw env1 i = false) (il : i < env1.length)
    (hg : ∀ x ∈ xs, ∃ m, (m = .sh ∨ m = .fr) ∧ evE C e (env1.set i (some (.sh, X x))) = .ok (m, G x) (env1.set i (some (.sh, X x)))) (hl : xs.length ≤ sizeLine) :
    evE C (.lc [(nm, i)] (.one i) k a b (.lit (.bl true)) e) env = .ok (.fr, .lst (xs.map G)) (env1.set i none) := by
  have := e_lcF (C := C) (nm := nm) (c := .lit (.bl true)) xs X (fun _ => true) G h1 ho il (fun x _ => rfl) (fun x hx _ => hg x hx) hl
  rw [this, filter_true]
theorem ints_map {α : Type} (f : α → Int) : ∀ xs : List α, ints? (xs.map fun x => D.int (f x)) = some (xs.map f)
  | [] => rfl
  | x :: xs => by simp [ints?, ints_map f xs]
theorem sum_cast {α : Type} (f : α → Nat) : ∀ xs : List α, (xs.map fun x => ((f x : Nat) : Int)).sum = (((xs.map f).sum : Nat) : Int)
  | [] => rfl
  | x :: xs => by simp [sum_cast f xs]

end Pu
end

section
set_option Elab.async false
set_option linter.all false
set_option maxRecDepth 100000
set_option maxHeartbeats 1000000
namespace Pu
open En PySem Sh
/-! ### calls -/
def At (T : Tab) (F : Fn) : Prop := T.lookup F.name = some F
theorem callN_at {T : Tab} {F : Fn} {k : Nat} {vs : List Val} (h : At T F) : callN T (k + 1) F.name vs = runF (callN T k) F vs := by
  unfold At at h
  show (match T.lookup F.name with | some F => runF (callN T k) F vs | none => .stuck) = _
  rw [h]
def isB : Tm → Bool
  | .bl _ => true
  | .nd _ _ => false
structure HI (T : Tab) : Prop where
  bk : At T f_is_blank
  inn : At T f_inner
section
variable {T : Tab}
theorem c_is_blank (h : HI T) (k : Nat) (t : Tm) : callN T (k + 1) "is_blank" [(.sh, toD t)] = .ok (.sh, .bl (isB t)) none := by
  rw [show ("is_blank" : Str) = f_is_blank.name from rfl, callN_at h.bk]
  cases t <;> simp [runF, ofE, argS, oneMu, low, evO, evI, getS, setS, rdy, ofO, finS, inp, muOf, muOk, refr, E.quiet, lows, bindTg, bind1, En.bindL, isMu, isOw, wipeE, src1, src2, ItK.two, R.bind_ok, R.toS_ok, e_var, e_own, e_fz, e_mv, e_mut, e_lit, e_gl, e_un, e_bin, e_sl, e_nix, e_chain, e_and, e_or, e_one, e_not, e_ite, e_tup, e_lst, e_dic0, e_dic1, e_call, e_get, e_pop, e_popAt, e_setdef, a_nil, a_cons, s_skip, s_seq, s_asg, s_asgT, s_asgP, s_aug, s_setI, s_app, s_clear, s_ex, s_ite, s_ret, s_retN, s_never, u_neg, u_lenL, u_lenT, u_lenS, u_listL, u_listT, u_tupL, u_tupT, u_sum, u_abs, u_all, u_isK, u_join, o_add, o_sub, o_mul, o_div, o_mod, o_pow, o_eqI, o_neI, o_lt, o_le, o_gt, o_ge, o_idx, o_max, o_min, opAdd, opSl, opIdx, opGe, kdOf, szOk, dv2, dv3, dv4, dv5, dv7, dv10, dv11, dv12, dv20, dv26, mu1, mu5, mu7, pw1, kd_str_tup, kd_str_lst, kd_str_dic, kd_str_int, kd_str_bl, kd_tup_str, kd_tup_lst, kd_tup_dic, kd_tup_int, kd_tup_bl, kd_lst_str, kd_lst_tup, kd_lst_dic, kd_lst_int, kd_lst_bl, kd_dic_str, kd_dic_tup, kd_dic_lst, kd_dic_int, kd_dic_bl, kd_int_str, kd_int_tup, kd_int_lst, kd_int_dic, kd_int_bl, kd_bl_str, kd_bl_tup, kd_bl_lst, kd_bl_dic, kd_bl_int, f_is_blank, b_is_blank, toD, isB]
theorem c_inner (h : HI T) (k : Nat) (t : Tm) : callN T (k + 2) "inner" [(.sh, toD t)] = .ok (.fr, .lst ((kids t).map toD)) none := by
  rw [show ("inner" : Str) = f_inner.name from rfl, callN_at h.inn]
  have e := c_is_blank h k t
  cases t with
  | bl s => simp [runF, ofE, argS, oneMu, low, evO, evI, getS, setS, rdy, ofO, finS, inp, muOf, muOk, refr, E.quiet, lows, bindTg, bind1, En.bindL, isMu, isOw, wipeE, src1, src2, ItK.two, R.bind_ok, R.toS_ok, e_var, e_own, e_fz, e_mv, e_mut, e_lit, e_gl, e_un, e_bin, e_sl, e_nix, e_chain, e_and, e_or, e_one, e_not, e_ite, e_tup, e_lst, e_dic0, e_dic1, e_call, e_get, e_pop, e_popAt, e_setdef, a_nil, a_cons, s_skip, s_seq, s_asg, s_asgT, s_asgP, s_aug, s_setI, s_app, s_clear, s_ex, s_ite, s_ret, s_retN, s_never, u_neg, u_lenL, u_lenT, u_lenS, u_listL, u_listT, u_tupL, u_tupT, u_sum, u_abs, u_all, u_isK, u_join, o_add, o_sub, o_mul, o_div, o_mod, o_pow, o_eqI, o_neI, o_lt, o_le, o_gt, o_ge, o_idx, o_max, o_min, opAdd, opSl, opIdx, opGe, kdOf, szOk, dv2, dv3, dv4, dv5, dv7, dv10, dv11, dv12, dv20, dv26, mu1, mu5, mu7, pw1, kd_str_tup, kd_str_lst, kd_str_dic, kd_str_int, kd_str_bl, kd_tup_str, kd_tup_lst, kd_tup_dic, kd_tup_int, kd_tup_bl, kd_lst_str, kd_lst_tup, kd_lst_dic, kd_lst_int, kd_lst_bl, kd_dic_str, kd_dic_tup, kd_dic_lst, kd_dic_int, kd_dic_bl, kd_int_str, kd_int_tup, kd_int_lst, kd_int_dic, kd_int_bl, kd_bl_str, kd_bl_tup, kd_bl_lst, kd_bl_dic, kd_bl_int, f_inner, b_inner, e, isB, kids]
  | nd s ps =>
    simp only [toD, toDs_map, isB] at e
    simp [runF, ofE, argS, oneMu, low, evO, evI, getS, setS, rdy, ofO, finS, inp, muOf, muOk, refr, E.quiet, lows, bindTg, bind1, En.bindL, isMu, isOw, wipeE, src1, src2, ItK.two, R.bind_ok, R.toS_ok, e_var, e_own, e_fz, e_mv, e_mut, e_lit, e_gl, e_un, e_bin, e_sl, e_nix, e_chain, e_and, e_or, e_one, e_not, e_ite, e_tup, e_lst, e_dic0, e_dic1, e_call, e_get, e_pop, e_popAt, e_setdef, a_nil, a_cons, s_skip, s_seq, s_asg, s_asgT, s_asgP, s_aug, s_setI, s_app, s_clear, s_ex, s_ite, s_ret, s_retN, s_never, u_neg, u_lenL, u_lenT, u_lenS, u_listL, u_listT, u_tupL, u_tupT, u_sum, u_abs, u_all, u_isK, u_join, o_add, o_sub, o_mul, o_div, o_mod, o_pow, o_eqI, o_neI, o_lt, o_le, o_gt, o_ge, o_idx, o_max, o_min, opAdd, opSl, opIdx, opGe, kdOf, szOk, dv2, dv3, dv4, dv5, dv7, dv10, dv11, dv12, dv20, dv26, mu1, mu5, mu7, pw1, kd_str_tup, kd_str_lst, kd_str_dic, kd_str_int, kd_str_bl, kd_tup_str, kd_tup_lst, kd_tup_dic, kd_tup_int, kd_tup_bl, kd_lst_str, kd_lst_tup, kd_lst_dic, kd_lst_int, kd_lst_bl, kd_dic_str, kd_dic_tup, kd_dic_lst, kd_dic_int, kd_dic_bl, kd_int_str, kd_int_tup, kd_int_lst, kd_int_dic, kd_int_bl, kd_bl_str, kd_bl_tup, kd_bl_lst, kd_bl_dic, kd_bl_int, f_inner, b_inner, e, kids, toD, cut, HT.sIx, toDs_map, take_map_len]
theorem c_parts_of (h : HI T) (hp : At T f_parts_of) : ∀ (k : Nat) (t : Tm), dep t + 1 ≤ k → parts t ≤ 1000 → callN T (k + 1) "parts_of" [(.sh, toD t)] = .ok (.sh, .int (parts t)) none := by
  intro k
  induction k with
  | zero => intro t hd; omega
  | succ k ih =>
    intro t hd ht
    rw [show ("parts_of" : Str) = f_parts_of.name from rfl, callN_at hp]
    have hk : 2 ≤ k + 1 := by cases t <;> rw [dep] at hd <;> omega
    obtain ⟨k', rfl⟩ : ∃ k', k = k' + 1 := ⟨k - 1, by omega⟩
    have ei := c_inner h k' t
    have lc := e_lcM (C := callN T (k' + 1 + 1)) (nm := "part") (i := 1) (k := .seq) (a := .call "inner" (.cons (.var 0) .nil)) (b := .nix) (e := .call "parts_of" (.cons (.var 1) .nil)) (env := [some (Sm.sh, toD t), none]) (kids t) toD (fun u => .int (parts u))
      (by simp [runF, ofE, argS, oneMu, low, evO, evI, getS, setS, rdy, ofO, finS, inp, muOf, muOk, refr, E.quiet, lows, bindTg, bind1, En.bindL, isMu, isOw, wipeE, src1, src2, ItK.two, R.bind_ok, R.toS_ok, e_var, e_own, e_fz, e_mv, e_mut, e_lit, e_gl, e_un, e_bin, e_sl, e_nix, e_chain, e_and, e_or, e_one, e_not, e_ite, e_tup, e_lst, e_dic0, e_dic1, e_call, e_get, e_pop, e_popAt, e_setdef, a_nil, a_cons, s_skip, s_seq, s_asg, s_asgT, s_asgP, s_aug, s_setI, s_app, s_clear, s_ex, s_ite, s_ret, s_retN, s_never, ei]; rfl) (by simp [runF, ofE, argS, oneMu, low, evO, evI, getS, setS, rdy, ofO, finS, inp, muOf, muOk, refr, E.quiet, lows, bindTg, bind1, En.bindL, isMu, isOw, wipeE, src1, src2, ItK.two, R.bind_ok, R.toS_ok, e_var, e_own, e_fz, e_mv, e_mut, e_lit, e_gl, e_un, e_bin, e_sl, e_nix, e_chain, e_and, e_or, e_one, e_not, e_ite, e_tup, e_lst, e_dic0, e_dic1, e_call, e_get, e_pop, e_popAt, e_setdef, a_nil, a_cons, s_skip, s_seq, s_asg, s_asgT, s_asgP, s_aug, s_setI, s_app, s_clear, s_ex, s_ite, s_ret, s_retN, s_never]) (by simp) (fun x hx => ⟨.sh, .inl rfl, by
        have := ih x (by have := dep_kid hx; omega) (by have := parts_kid hx; omega)
        simp [runF, ofE, argS, oneMu, low, evO, evI, getS, setS, rdy, ofO, finS, inp, muOf, muOk, refr, E.quiet, lows, bindTg, bind1, En.bindL, isMu, isOw, wipeE, src1, src2, ItK.two, R.bind_ok, R.toS_ok, e_var, e_own, e_fz, e_mv, e_mut, e_lit, e_gl, e_un, e_bin, e_sl, e_nix, e_chain, e_and, e_or, e_one, e_not, e_ite, e_tup, e_lst, e_dic0, e_dic1, e_call, e_get, e_pop, e_popAt, e_setdef, a_nil, a_cons, s_skip, s_seq, s_asg, s_asgT, s_asgP, s_aug, s_setI, s_app, s_clear, s_ex, s_ite, s_ret, s_retN, s_never, this]⟩) (by have := kids_len t; simp [sizeLine]; omega)
    simp [runF, ofE, argS, oneMu, low, evO, evI, getS, setS, rdy, ofO, finS, inp, muOf, muOk, refr, E.quiet, lows, bindTg, bind1, En.bindL, isMu, isOw, wipeE, src1, src2, ItK.two, R.bind_ok, R.toS_ok, e_var, e_own, e_fz, e_mv, e_mut, e_lit, e_gl, e_un, e_bin, e_sl, e_nix, e_chain, e_and, e_or, e_one, e_not, e_ite, e_tup, e_lst, e_dic0, e_dic1, e_call, e_get, e_pop, e_popAt, e_setdef, a_nil, a_cons, s_skip, s_seq, s_asg, s_asgT, s_asgP, s_aug, s_setI, s_app, s_clear, s_ex, s_ite, s_ret, s_retN, s_never, f_parts_of, b_parts_of, lc, u_neg, u_lenL, u_lenT, u_lenS, u_listL, u_listT, u_tupL, u_tupT, u_sum, u_abs, u_all, u_isK, u_join, o_add, o_sub, o_mul, o_div, o_mod, o_pow, o_eqI, o_neI, o_lt, o_le, o_gt, o_ge, o_idx, o_max, o_min, opAdd, opSl, opIdx, opGe, kdOf, szOk, dv2, dv3, dv4, dv5, dv7, dv10, dv11, dv12, dv20, dv26, mu1, mu5, mu7, pw1, kd_str_tup, kd_str_lst, kd_str_dic, kd_str_int, kd_str_bl, kd_tup_str, kd_tup_lst, kd_tup_dic, kd_tup_int, kd_tup_bl, kd_lst_str, kd_lst_tup, kd_lst_dic, kd_lst_int, kd_lst_bl, kd_dic_str, kd_dic_tup, kd_dic_lst, kd_dic_int, kd_dic_bl, kd_int_str, kd_int_tup, kd_int_lst, kd_int_dic, kd_int_bl, kd_bl_str, kd_bl_tup, kd_bl_lst, kd_bl_dic, kd_bl_int, ints_map]
    rw [parts_kids, sum_cast]
    simp
/-! ### places -/
def plD (p : List Nat) : D := .tup (p.map fun n : Nat => .int n)
def NM (s : Option (Sm × D)) : Prop := s = none ∨ ∃ d, s = some (.sh, d)
theorem placess_has : ∀ {ts : List Tm} (k : Nat) {u : Tm} {p : List Nat}, u ∈ ts → p ∈ places u → ∃ n, n :: p ∈ placess k ts
  | v :: ts, k, u, p, hu, hp => by
    rw [placess]
    rcases List.mem_cons.mp hu with e | e
    · subst e; exact ⟨k, List.mem_append_left _ (List.mem_map.mpr ⟨p, hp, rfl⟩)⟩
    · obtain ⟨n, hn⟩ := placess_has (k + 1) e hp
      exact ⟨n, List.mem_append_right _ hn⟩
theorem c_places_of (h : HI T) (hp : At T f_places_of) : ∀ (k : Nat) (t : Tm), dep t + 1 ≤ k → parts t ≤ 1000 → (∀ p ∈ places t, p.length ≤ 1000) → callN T (k + 1) "places_of" [(.sh, toD t)] = .ok (.fr, .lst ((places t).map plD)) none := by
  intro k
  induction k with
  | zero => intro t hd; omega
  | succ k ih =>
    intro t hd ht hl
    rw [show ("places_of" : Str) = f_places_of.name from rfl, callN_at hp]
    have hk : 2 ≤ k + 1 := by cases t <;> rw [dep] at hd <;> omega
    obtain ⟨k', rfl⟩ : ∃ k', k = k' + 1 := ⟨k - 1, by omega⟩
    have ei := c_inner h k' t
    -- the loop
    have loop : ∀ (ts : List Tm) (n : Nat) (acc : List (List Nat)) (s2 s3 : Option (Sm × D)), (∀ u ∈ ts, u ∈ kids t) → acc.length + partss ts ≤ 1000 → NM s2 → NM s3 →
        (∀ u ∈ ts, ∀ p ∈ places u, p.length ≤ 999) →
        ∃ s2' s3', forL (.many [2, 3]) (evS (callN T (k' + 1 + 1)) (.seq (.aug 1 (.lc [("place", 4)] (.one 4) .seq (.call "places_of" (.cons (.var 3) .nil)) .nix (.lit (.bl true)) (.bin .add (.tup (.cons (.var 2) .nil)) (.var 4)))) .skip)) (enumD n (ts.map toD)) [some (Sm.sh, toD t), some (Sm.ow, .lst (acc.map plD)), s2, s3, none]
          = .nx [some (Sm.sh, toD t), some (Sm.ow, .lst ((acc ++ placess n ts).map plD)), s2', s3', none] := by
      intro ts
      induction ts with
      | nil => intro n acc s2 s3 _ _ _ _ _; exact ⟨s2, s3, by simp [enumD, forL, placess]⟩
      | cons u ts ihs =>
        intro n acc s2 s3 hm hs m2 m3 hpl
        have hu := hm u (.head _)
        have ep := ih u (by have := dep_kid hu; omega) (by have := parts_kid hu; omega) (fun p hp => by have := hpl u (.head _) p hp; omega)
        have lc := e_lcM (C := callN T (k' + 1 + 1)) (nm := "place") (i := 4) (k := .seq) (a := .call "places_of" (.cons (.var 3) .nil)) (b := .nix) (e := .bin .add (.tup (.cons (.var 2) .nil)) (.var 4)) (env := [some (Sm.sh, toD t), some (Sm.ow, .lst (acc.map plD)), some (Sm.sh, .int n), some (Sm.sh, toD u), none]) (places u) plD (fun p => plD (n :: p))
          (by simp [runF, ofE, argS, oneMu, low, evO, evI, getS, setS, rdy, ofO, finS, inp, muOf, muOk, refr, E.quiet, lows, bindTg, bind1, En.bindL, isMu, isOw, wipeE, src1, src2, ItK.two, R.bind_ok, R.toS_ok, e_var, e_own, e_fz, e_mv, e_mut, e_lit, e_gl, e_un, e_bin, e_sl, e_nix, e_chain, e_and, e_or, e_one, e_not, e_ite, e_tup, e_lst, e_dic0, e_dic1, e_call, e_get, e_pop, e_popAt, e_setdef, a_nil, a_cons, s_skip, s_seq, s_asg, s_asgT, s_asgP, s_aug, s_setI, s_app, s_clear, s_ex, s_ite, s_ret, s_retN, s_never, ep]; rfl) (by simp [runF, ofE, argS, oneMu, low, evO, evI, getS, setS, rdy, ofO, finS, inp, muOf, muOk, refr, E.quiet, lows, bindTg, bind1, En.bindL, isMu, isOw, wipeE, src1, src2, ItK.two, R.bind_ok, R.toS_ok, e_var, e_own, e_fz, e_mv, e_mut, e_lit, e_gl, e_un, e_bin, e_sl, e_nix, e_chain, e_and, e_or, e_one, e_not, e_ite, e_tup, e_lst, e_dic0, e_dic1, e_call, e_get, e_pop, e_popAt, e_setdef, a_nil, a_cons, s_skip, s_seq, s_asg, s_asgT, s_asgP, s_aug, s_setI, s_app, s_clear, s_ex, s_ite, s_ret, s_retN, s_never]) (by simp) (fun p hp => ⟨.sh, .inl rfl, by
            have := hpl u (.head _) p hp
            simp [runF, ofE, argS, oneMu, low, evO, evI, getS, setS, rdy, ofO, finS, inp, muOf, muOk, refr, E.quiet, lows, bindTg, bind1, En.bindL, isMu, isOw, wipeE, src1, src2, ItK.two, R.bind_ok, R.toS_ok, e_var, e_own, e_fz, e_mv, e_mut, e_lit, e_gl, e_un, e_bin, e_sl, e_nix, e_chain, e_and, e_or, e_one, e_not, e_ite, e_tup, e_lst, e_dic0, e_dic1, e_call, e_get, e_pop, e_popAt, e_setdef, a_nil, a_cons, s_skip, s_seq, s_asg, s_asgT, s_asgP, s_aug, s_setI, s_app, s_clear, s_ex, s_ite, s_ret, s_retN, s_never, u_neg, u_lenL, u_lenT, u_lenS, u_listL, u_listT, u_tupL, u_tupT, u_sum, u_abs, u_all, u_isK, u_join, o_add, o_sub, o_mul, o_div, o_mod, o_pow, o_eqI, o_neI, o_lt, o_le, o_gt, o_ge, o_idx, o_max, o_min, opAdd, opSl, opIdx, opGe, kdOf, szOk, dv2, dv3, dv4, dv5, dv7, dv10, dv11, dv12, dv20, dv26, mu1, mu5, mu7, pw1, kd_str_tup, kd_str_lst, kd_str_dic, kd_str_int, kd_str_bl, kd_tup_str, kd_tup_lst, kd_tup_dic, kd_tup_int, kd_tup_bl, kd_lst_str, kd_lst_tup, kd_lst_dic, kd_lst_int, kd_lst_bl, kd_dic_str, kd_dic_tup, kd_dic_lst, kd_dic_int, kd_dic_bl, kd_int_str, kd_int_tup, kd_int_lst, kd_int_dic, kd_int_bl, kd_bl_str, kd_bl_tup, kd_bl_lst, kd_bl_dic, kd_bl_int, plD, sizeLine]
            rw [if_pos (by omega)]⟩) (by have := parts_kid hu; rw [places_len]; simp [sizeLine]; omega)
        obtain ⟨s2', s3', e⟩ := ihs (n + 1) (acc ++ (places u).map (n :: ·)) (some (Sm.sh, .int n)) (some (Sm.sh, toD u)) (fun v hv => hm v (.tail _ hv)) (by rw [partss] at hs; simp [places_len]; omega) (.inr ⟨_, rfl⟩) (.inr ⟨_, rfl⟩) (fun v hv => hpl v (.tail _ hv))
        refine ⟨s2', s3', ?_⟩
        rw [List.map_cons, enumD, forL]
        have sz : acc.length + (places u).length ≤ sizeLine := by rw [partss] at hs; rw [places_len]; simp [sizeLine]; omega
        simp only [List.map_append, List.map_map, Function.comp_def, List.append_assoc] at e
        rcases m2 with rfl | ⟨d2, rfl⟩ <;> rcases m3 with rfl | ⟨d3, rfl⟩ <;> simp [runF, ofE, argS, oneMu, low, evO, evI, getS, setS, rdy, ofO, finS, inp, muOf, muOk, refr, E.quiet, lows, bindTg, bind1, En.bindL, isMu, isOw, wipeE, src1, src2, ItK.two, R.bind_ok, R.toS_ok, e_var, e_own, e_fz, e_mv, e_mut, e_lit, e_gl, e_un, e_bin, e_sl, e_nix, e_chain, e_and, e_or, e_one, e_not, e_ite, e_tup, e_lst, e_dic0, e_dic1, e_call, e_get, e_pop, e_popAt, e_setdef, a_nil, a_cons, s_skip, s_seq, s_asg, s_asgT, s_asgP, s_aug, s_setI, s_app, s_clear, s_ex, s_ite, s_ret, s_retN, s_never, lc, szOk, sz, e, placess, Function.comp_def]
    have hpk : ∀ u ∈ kids t, ∀ p ∈ places u, p.length ≤ 999 := fun u hu p hp => by
      cases t with
      | bl s => cases hu
      | nd s ps =>
        obtain ⟨n, hn⟩ := placess_has 0 hu hp
        have := hl (n :: p) (by rw [places]; exact .tail _ hn)
        simp at this; omega
    obtain ⟨s2, s3, e⟩ := loop (kids t) 0 [[]] none none (fun _ h => h) (by have := parts_kids t; rw [← partss_sum] at this; simp; omega) (.inl rfl) (.inl rfl) hpk
    have ep : places t = [[]] ++ placess 0 (kids t) := by cases t <;> rfl
    have pd : plD [] = .tup [] := rfl
    rw [← ep] at e
    simp only [List.map_cons, List.map_nil, pd] at e
    simp only [f_places_of, b_places_of]
    simp [runF, ofE, argS, oneMu, low, evO, evI, getS, setS, rdy, ofO, finS, inp, muOf, muOk, refr, E.quiet, lows, bindTg, bind1, En.bindL, isMu, isOw, wipeE, src1, src2, ItK.two, R.bind_ok, R.toS_ok, e_var, e_own, e_fz, e_mv, e_mut, e_lit, e_gl, e_un, e_bin, e_sl, e_nix, e_chain, e_and, e_or, e_one, e_not, e_ite, e_tup, e_lst, e_dic0, e_dic1, e_call, e_get, e_pop, e_popAt, e_setdef, a_nil, a_cons, s_skip, s_seq, s_asg, s_asgT, s_asgP, s_aug, s_setI, s_app, s_clear, s_ex, s_ite, s_ret, s_retN, s_never, u_neg, u_lenL, u_lenT, u_lenS, u_listL, u_listT, u_tupL, u_tupT, u_sum, u_abs, u_all, u_isK, u_join, o_add, o_sub, o_mul, o_div, o_mod, o_pow, o_eqI, o_neI, o_lt, o_le, o_gt, o_ge, o_idx, o_max, o_min, opAdd, opSl, opIdx, opGe, kdOf, szOk, dv2, dv3, dv4, dv5, dv7, dv10, dv11, dv12, dv20, dv26, mu1, mu5, mu7, pw1, kd_str_tup, kd_str_lst, kd_str_dic, kd_str_int, kd_str_bl, kd_tup_str, kd_tup_lst, kd_tup_dic, kd_tup_int, kd_tup_bl, kd_lst_str, kd_lst_tup, kd_lst_dic, kd_lst_int, kd_lst_bl, kd_dic_str, kd_dic_tup, kd_dic_lst, kd_dic_int, kd_dic_bl, kd_int_str, kd_int_tup, kd_int_lst, kd_int_dic, kd_int_bl, kd_bl_str, kd_bl_tup, kd_bl_lst, kd_bl_dic, kd_bl_int, sizeLine]
    rw [s_for (xs := enumD 0 ((kids t).map toD)) (env1 := [some (Sm.sh, toD t), some (Sm.ow, .lst [.tup []]), none, none, none]) (by simp [runF, ofE, argS, oneMu, low, evO, evI, getS, setS, rdy, ofO, finS, inp, muOf, muOk, refr, E.quiet, lows, bindTg, bind1, En.bindL, isMu, isOw, wipeE, src1, src2, ItK.two, R.bind_ok, R.toS_ok, e_var, e_own, e_fz, e_mv, e_mut, e_lit, e_gl, e_un, e_bin, e_sl, e_nix, e_chain, e_and, e_or, e_one, e_not, e_ite, e_tup, e_lst, e_dic0, e_dic1, e_call, e_get, e_pop, e_popAt, e_setdef, a_nil, a_cons, s_skip, s_seq, s_asg, s_asgT, s_asgP, s_aug, s_setI, s_app, s_clear, s_ex, s_ite, s_ret, s_retN, s_never, ei]), e]
    simp [finS]
end
end Pu
end

section
set_option Elab.async false
set_option linter.all false
set_option maxRecDepth 100000
set_option maxHeartbeats 1000000
namespace Pu
open En PySem Sh
/-! ### texts, ranges -/
def strL (l : List Nat) : Str := ⟨l.toArray⟩
theorem strL_app (a b : List Nat) : strL a ++ strL b = strL (a ++ b) := by
  show Str.append _ _ = _
  simp [strL, Str.append]
theorem strL_len (a : List Nat) : (strL a).length = a.length := by simp [strL, Str.length]
theorem strL_size (a : List Nat) : (strL a).cps.size = a.length := by simp [strL]
theorem strL_cps (a : List Nat) : (strL a).cps.toList = a := by simp [strL]
theorem strL_inj {a b : List Nat} (h : strL a = strL b) : a = b := by
  have := congrArg (fun s => s.cps.toList) h
  simpa [strL] using this
theorem strL_one (c : Nat) : (⟨#[c]⟩ : Str) = strL [c] := rfl
theorem rangeD_map : ∀ (n : Nat) (lo : Int), rangeD lo n = (List.range n).map fun i : Nat => .int (lo + i)
  | 0, lo => rfl
  | n + 1, lo => by
    rw [rangeD, rangeD_map n, List.range_succ_eq_map, List.map_cons, List.map_map]
    simp [Function.comp_def]
    intro a _; omega
theorem rangeD0 (n : Nat) : rangeD 0 n = (List.range n).map fun i : Nat => .int i := by
  rw [rangeD_map]; simp
def abc : List Nat := [97, 98, 99, 100, 101, 102, 103, 104, 105, 106, 107, 108, 109, 110, 111, 112, 113, 114, 115, 116, 117, 118, 119, 120, 121, 122]
def ABC : List Nat := [65, 66, 67, 68, 69, 70, 71, 72, 73, 74, 75, 76, 77, 78, 79, 80, 81, 82, 83, 84, 85, 86, 87, 88, 89, 90]
theorem abc_str : Str.ofString "abcdefghijklmnopqrstuvwxyz" = strL abc := by decide +kernel
theorem ABC_str : Str.ofString "ABCDEFGHIJKLMNOPQRSTUVWXYZ" = strL ABC := by decide +kernel
theorem emp_str : Str.ofString "" = strL [] := by decide +kernel
def abcAt (i : Int) : Nat := abc.getD i.toNat 97
def ABCAt (i : Int) : Nat := ABC.getD i.toNat 65
theorem atI_get {α : Type} {xs : List α} {i : Int} {d : α} (h0 : 0 ≤ i) (h1 : i < xs.length) : L2.atI xs i = some (xs.getD i.toNat d) := by
  unfold L2.atI L2.ixN
  rw [if_pos h0, if_pos h1]
  simp only [Option.bind]
  have : i.toNat < xs.length := by omega
  rw [List.getD_eq_getElem?_getD, List.getElem?_eq_getElem this]; rfl
theorem abc_at (x : Int) : L2.atI abc (x % 26) = some (abcAt (x % 26)) := atI_get (by omega) (by simp [abc]; omega)
theorem ABC_at (x : Int) : L2.atI ABC (x % 26) = some (ABCAt (x % 26)) := atI_get (by omega) (by simp [ABC]; omega)
theorem abcAt_all (i : Int) : 97 ≤ abcAt i ∧ abcAt i ≤ 122 := by
  unfold abcAt
  have : ∀ n, 97 ≤ abc.getD n 97 ∧ abc.getD n 97 ≤ 122 := fun n => by
    by_cases h : n < 26
    · have : ∀ n, n < 26 → 97 ≤ abc.getD n 97 ∧ abc.getD n 97 ≤ 122 := by decide
      exact this n h
    · rw [List.getD_eq_getElem?_getD, List.getElem?_eq_none (by simp [abc]; omega)]; simp
  exact this _
theorem ABCAt_all (i : Int) : 65 ≤ ABCAt i ∧ ABCAt i ≤ 90 := by
  unfold ABCAt
  have : ∀ n, 65 ≤ ABC.getD n 65 ∧ ABC.getD n 65 ≤ 90 := fun n => by
    by_cases h : n < 26
    · have : ∀ n, n < 26 → 65 ≤ ABC.getD n 65 ∧ ABC.getD n 65 ≤ 90 := by decide
      exact this n h
    · rw [List.getD_eq_getElem?_getD, List.getElem?_eq_none (by simp [ABC]; omega)]; simp
  exact this _
theorem strs_map {α : Type} (f : α → Str) : ∀ xs : List α, strs? (xs.map fun x => D.str (f x)) = some (xs.map f)
  | [] => rfl
  | x :: xs => by simp [strs?, strs_map f xs]
theorem join_map {α : Type} (f : α → List Nat) : ∀ xs : List α, joinS (xs.map fun x => strL (f x)) = strL (xs.flatMap f)
  | [] => rfl
  | x :: xs => by simp [joinS, join_map f xs, strL_app]
theorem i_rng {C : Calls} {a : E} {env env1 : En.Env} {n : Int} (h : evE C a env = .ok (.sh, .int n) env1) (h0 : -1000000 ≤ n) (h1 : n < 1000000) : evI (evE C a) (evE C .nix) .rng env = .ok (rangeD 0 n.toNat) env1 := by
  have h2 : -(2 ^ 62) ≤ n := by omega
  have h3 : n < 2 ^ 62 := by omega
  unfold evI
  rw [h]
  simp only [R.bind_ok, e_nix, low, ItK.two, Bool.false_eq_true, if_false, src1, decide_eq_true h2, decide_eq_true h3, Bool.and_self, if_true]
theorem i_seq {C : Calls} {a : E} {env env1 : En.Env} {m : Md} {ds : List D} (hm : m = .sh ∨ m = .fr) (h : evE C a env = .ok (m, .lst ds) env1) : evI (evE C a) (evE C .nix) .seq env = .ok ds env1 := by
  unfold evI
  rw [h]
  rcases hm with rfl | rfl <;> rfl
theorem i_seqT {C : Calls} {a : E} {env env1 : En.Env} {ds : List D} (h : evE C a env = .ok (.sh, .tup ds) env1) : evI (evE C a) (evE C .nix) .seq env = .ok ds env1 := by
  unfold evI
  rw [h]
  rfl
/-! ### the cell -/
section
variable {T : Tab}
theorem c_cell (h : At T f__law_cell) (k : Nat) (ns : List Int) (j : Nat) : callN T (k + 1) "_law_cell" [(.sh, .lst (ns.map D.int)), (.sh, .int j)] = .ok (.sh, .int (ns.getD j 0)) none := by
  rw [show ("_law_cell" : Str) = f__law_cell.name from rfl, callN_at h]
  by_cases hj : j < ns.length
  · have : L2.atI (ns.map D.int) j = some (.int (ns.getD j 0)) := by
      rw [atI_get (d := .int 0) (by omega) (by simp; omega)]
      simp [List.getD_eq_getElem?_getD, List.getElem?_eq_getElem hj]
    simp [runF, ofE, argS, oneMu, low, evO, evI, getS, setS, rdy, ofO, finS, inp, muOf, muOk, refr, E.quiet, lows, bindTg, bind1, En.bindL, isMu, isOw, wipeE, src1, src2, ItK.two, R.bind_ok, R.toS_ok, e_var, e_own, e_fz, e_mv, e_mut, e_lit, e_gl, e_un, e_bin, e_sl, e_nix, e_chain, e_and, e_or, e_one, e_not, e_ite, e_tup, e_lst, e_dic0, e_dic1, e_call, e_get, e_pop, e_popAt, e_setdef, a_nil, a_cons, s_skip, s_seq, s_asg, s_asgT, s_asgP, s_aug, s_setI, s_app, s_clear, s_ex, s_ite, s_ret, s_retN, s_never, u_neg, u_lenL, u_lenT, u_lenS, u_listL, u_listT, u_tupL, u_tupT, u_sum, u_abs, u_all, u_isK, u_join, o_add, o_sub, o_mul, o_div, o_mod, o_pow, o_eqI, o_neI, o_lt, o_le, o_gt, o_ge, o_idx, o_max, o_min, opAdd, opSl, opIdx, opGe, kdOf, szOk, dv2, dv3, dv4, dv5, dv7, dv10, dv11, dv12, dv20, dv26, mu1, mu5, mu7, pw1, kd_str_tup, kd_str_lst, kd_str_dic, kd_str_int, kd_str_bl, kd_tup_str, kd_tup_lst, kd_tup_dic, kd_tup_int, kd_tup_bl, kd_lst_str, kd_lst_tup, kd_lst_dic, kd_lst_int, kd_lst_bl, kd_dic_str, kd_dic_tup, kd_dic_lst, kd_dic_int, kd_dic_bl, kd_int_str, kd_int_tup, kd_int_lst, kd_int_dic, kd_int_bl, kd_bl_str, kd_bl_tup, kd_bl_lst, kd_bl_dic, kd_bl_int, f__law_cell, b__law_cell, hj, this]
  · have : ns.getD j 0 = 0 := by rw [List.getD_eq_getElem?_getD, List.getElem?_eq_none (by omega)]; rfl
    simp [runF, ofE, argS, oneMu, low, evO, evI, getS, setS, rdy, ofO, finS, inp, muOf, muOk, refr, E.quiet, lows, bindTg, bind1, En.bindL, isMu, isOw, wipeE, src1, src2, ItK.two, R.bind_ok, R.toS_ok, e_var, e_own, e_fz, e_mv, e_mut, e_lit, e_gl, e_un, e_bin, e_sl, e_nix, e_chain, e_and, e_or, e_one, e_not, e_ite, e_tup, e_lst, e_dic0, e_dic1, e_call, e_get, e_pop, e_popAt, e_setdef, a_nil, a_cons, s_skip, s_seq, s_asg, s_asgT, s_asgP, s_aug, s_setI, s_app, s_clear, s_ex, s_ite, s_ret, s_retN, s_never, u_neg, u_lenL, u_lenT, u_lenS, u_listL, u_listT, u_tupL, u_tupT, u_sum, u_abs, u_all, u_isK, u_join, o_add, o_sub, o_mul, o_div, o_mod, o_pow, o_eqI, o_neI, o_lt, o_le, o_gt, o_ge, o_idx, o_max, o_min, opAdd, opSl, opIdx, opGe, kdOf, szOk, dv2, dv3, dv4, dv5, dv7, dv10, dv11, dv12, dv20, dv26, mu1, mu5, mu7, pw1, kd_str_tup, kd_str_lst, kd_str_dic, kd_str_int, kd_str_bl, kd_tup_str, kd_tup_lst, kd_tup_dic, kd_tup_int, kd_tup_bl, kd_lst_str, kd_lst_tup, kd_lst_dic, kd_lst_int, kd_lst_bl, kd_dic_str, kd_dic_tup, kd_dic_lst, kd_dic_int, kd_dic_bl, kd_int_str, kd_int_tup, kd_int_lst, kd_int_dic, kd_int_bl, kd_bl_str, kd_bl_tup, kd_bl_lst, kd_bl_dic, kd_bl_int, f__law_cell, b__law_cell, hj, this]
/-! ### words -/
theorem abcAt_eq (i : Int) : abc.getD (i % 26).toNat 0 = abcAt (i % 26) := by
  unfold abcAt
  rw [List.getD_eq_getElem?_getD, List.getD_eq_getElem?_getD, List.getElem?_eq_getElem (by simp [abc]; omega)]; rfl
theorem dvx {x : Nat} (hx6 : x < 6) : divOk (3 + (x : Int) * x) = true := by
        have : x = 0 ∨ x = 1 ∨ x = 2 ∨ x = 3 ∨ x = 4 ∨ x = 5 := by omega
        rcases this with rfl | rfl | rfl | rfl | rfl | rfl <;> decide +kernel
theorem t3 {C : Calls} {x c : Int} {B : Str} {s5 : Option (Sm × D)} {N : Int} (m1 : mulOk (x : Int) x = true) (d1 : divOk (3 + (x : Int) * x) = true) : evE C (.bin .fdiv (.var 2) (.bin .add (.lit (.int 3)) (.bin .mul (.var 4) (.var 4)))) [some (Sm.sh, .int c), some (Sm.sh, .str (strL abc)), some (Sm.sh, .int N), some (Sm.sh, .str B), some (Sm.sh, .int x), s5] = .ok (.sh, .int (N / (3 + (x : Int) * x))) [some (Sm.sh, .int c), some (Sm.sh, .str (strL abc)), some (Sm.sh, .int N), some (Sm.sh, .str B), some (Sm.sh, .int x), s5] := by
  generalize strL abc = Z
  simp [runF, ofE, argS, oneMu, low, evO, evI, getS, setS, rdy, ofO, finS, inp, muOf, muOk, refr, E.quiet, lows, bindTg, bind1, En.bindL, isMu, isOw, wipeE, src1, src2, ItK.two, R.bind_ok, R.toS_ok, e_var, e_own, e_fz, e_mv, e_mut, e_lit, e_gl, e_un, e_bin, e_sl, e_nix, e_chain, e_and, e_or, e_one, e_not, e_ite, e_tup, e_lst, e_dic0, e_dic1, e_call, e_get, e_pop, e_popAt, e_setdef, a_nil, a_cons, s_skip, s_seq, s_asg, s_asgT, s_asgP, s_aug, s_setI, s_app, s_clear, s_ex, s_ite, s_ret, s_retN, s_never, u_neg, u_lenL, u_lenT, u_lenS, u_listL, u_listT, u_tupL, u_tupT, u_sum, u_abs, u_all, u_isK, u_join, o_add, o_sub, o_mul, o_div, o_mod, o_pow, o_eqI, o_neI, o_lt, o_le, o_gt, o_ge, o_idx, o_max, o_min, opAdd, opSl, opIdx, opGe, kdOf, szOk, dv2, dv3, dv4, dv5, dv7, dv10, dv11, dv12, dv20, dv26, mu1, mu5, mu7, pw1, kd_str_tup, kd_str_lst, kd_str_dic, kd_str_int, kd_str_bl, kd_tup_str, kd_tup_lst, kd_tup_dic, kd_tup_int, kd_tup_bl, kd_lst_str, kd_lst_tup, kd_lst_dic, kd_lst_int, kd_lst_bl, kd_dic_str, kd_dic_tup, kd_dic_lst, kd_dic_int, kd_dic_bl, kd_int_str, kd_int_tup, kd_int_lst, kd_int_dic, kd_int_bl, kd_bl_str, kd_bl_tup, kd_bl_lst, kd_bl_dic, kd_bl_int, m1, d1]
theorem e_letter {C : Calls} {e : E} {env : En.Env} {L : List Nat} {n : Int} (h0 : getS env 1 = some (.sh, .str (strL L))) (hL : L.length = 26) (h : evE C e env = .ok (.sh, .int n) env) : evE C (.bin .idx (.var 1) (.bin .mod e (.lit (.int 26)))) env = .ok (.sh, .str (strL [L.getD (n % 26).toNat 0])) env := by
  have hv : evE C (.var 1) env = .ok (.sh, .str (strL L)) env := by rw [e_var, h0]
  have hm : evE C (.bin .mod e (.lit (.int 26))) env = .ok (.sh, .int (n % 26)) env := by
    rw [e_bin, h]; simp [rdy, o_mod, ofO, e_lit, inp]
  have ha : L2.atI L (n % 26) = some (L.getD (n % 26).toNat 0) := atI_get (by omega) (by rw [hL]; omega)
  have hs : szOk (strL L).length = true := by rw [strL_len, hL]; decide
  rw [e_bin, hv]
  simp [hm, rdy, o_idx, opIdx, ofO, inp, strL_cps, ha, hs, strL_one]
theorem word_one {C : Calls} {c N p y : Int} {B : List Nat} (hb : B.length ≤ 6) (p0 : 0 ≤ p) (p1 : p ≤ B.length) : evE C (.bin .add (.bin .add (.sl (.var 3) .nix (.var 5)) (.bin .idx (.var 1) (.bin .mod (.bin .add (.bin .fdiv (.var 2) (.lit (.int 5))) (.bin .mul (.lit (.int 5)) (.var 4))) (.lit (.int 26))))) (.sl (.var 3) (.var 5) .nix)) [some (Sm.sh, .int c), some (Sm.sh, .str (strL abc)), some (Sm.sh, .int N), some (Sm.sh, .str (strL B)), some (Sm.sh, .int y), some (Sm.sh, .int p)]
    = .ok (.sh, .str (strL (B.take p.toNat ++ [abcAt ((N / 5 + 5 * y) % 26)] ++ B.drop p.toNat))) [some (Sm.sh, .int c), some (Sm.sh, .str (strL abc)), some (Sm.sh, .int N), some (Sm.sh, .str (strL B)), some (Sm.sh, .int y), some (Sm.sh, .int p)] := by
  have t : ∀ Z : Str, evE C (.bin .add (.bin .fdiv (.var 2) (.lit (.int 5))) (.bin .mul (.lit (.int 5)) (.var 4))) [some (Sm.sh, .int c), some (Sm.sh, .str Z), some (Sm.sh, .int N), some (Sm.sh, .str (strL B)), some (Sm.sh, .int y), some (Sm.sh, .int p)] = .ok (.sh, .int (N / 5 + 5 * y)) [some (Sm.sh, .int c), some (Sm.sh, .str Z), some (Sm.sh, .int N), some (Sm.sh, .str (strL B)), some (Sm.sh, .int y), some (Sm.sh, .int p)] := fun Z => by simp [runF, ofE, argS, oneMu, low, evO, evI, getS, setS, rdy, ofO, finS, inp, muOf, muOk, refr, E.quiet, lows, bindTg, bind1, En.bindL, isMu, isOw, wipeE, src1, src2, ItK.two, R.bind_ok, R.toS_ok, e_var, e_own, e_fz, e_mv, e_mut, e_lit, e_gl, e_un, e_bin, e_sl, e_nix, e_chain, e_and, e_or, e_one, e_not, e_ite, e_tup, e_lst, e_dic0, e_dic1, e_call, e_get, e_pop, e_popAt, e_setdef, a_nil, a_cons, s_skip, s_seq, s_asg, s_asgT, s_asgP, s_aug, s_setI, s_app, s_clear, s_ex, s_ite, s_ret, s_retN, s_never, u_neg, u_lenL, u_lenT, u_lenS, u_listL, u_listT, u_tupL, u_tupT, u_sum, u_abs, u_all, u_isK, u_join, o_add, o_sub, o_mul, o_div, o_mod, o_pow, o_eqI, o_neI, o_lt, o_le, o_gt, o_ge, o_idx, o_max, o_min, opAdd, opSl, opIdx, opGe, kdOf, szOk, dv2, dv3, dv4, dv5, dv7, dv10, dv11, dv12, dv20, dv26, mu1, mu5, mu7, pw1, kd_str_tup, kd_str_lst, kd_str_dic, kd_str_int, kd_str_bl, kd_tup_str, kd_tup_lst, kd_tup_dic, kd_tup_int, kd_tup_bl, kd_lst_str, kd_lst_tup, kd_lst_dic, kd_lst_int, kd_lst_bl, kd_dic_str, kd_dic_tup, kd_dic_lst, kd_dic_int, kd_dic_bl, kd_int_str, kd_int_tup, kd_int_lst, kd_int_dic, kd_int_bl, kd_bl_str, kd_bl_tup, kd_bl_lst, kd_bl_dic, kd_bl_int]
  have l := (e_letter (L := abc) rfl rfl (t (strL abc))).trans (by rw [abcAt_eq])
  generalize strL abc = Z at *
  have q1 : ¬ p < 0 := by omega
  have q2 : min p.toNat B.length = p.toNat := by omega
  have sB : B.length ≤ sizeLine := by simp [sizeLine]; omega
  have q4 : p.toNat + 1 ≤ sizeLine := by simp [sizeLine]; omega
  have q5 : p.toNat + 1 + (B.length - p.toNat) ≤ sizeLine := by simp [sizeLine]; omega
  have x1 : evE C (.sl (.var 3) .nix (.var 5)) [some (Sm.sh, .int c), some (Sm.sh, .str Z), some (Sm.sh, .int N), some (Sm.sh, .str (strL B)), some (Sm.sh, .int y), some (Sm.sh, .int p)] = .ok (.sh, .str (strL (B.take p.toNat))) [some (Sm.sh, .int c), some (Sm.sh, .str Z), some (Sm.sh, .int N), some (Sm.sh, .str (strL B)), some (Sm.sh, .int y), some (Sm.sh, .int p)] := by
    simp [runF, ofE, argS, oneMu, low, evO, evI, getS, setS, rdy, ofO, finS, inp, muOf, muOk, refr, E.quiet, lows, bindTg, bind1, En.bindL, isMu, isOw, wipeE, src1, src2, ItK.two, R.bind_ok, R.toS_ok, e_var, e_own, e_fz, e_mv, e_mut, e_lit, e_gl, e_un, e_bin, e_sl, e_nix, e_chain, e_and, e_or, e_one, e_not, e_ite, e_tup, e_lst, e_dic0, e_dic1, e_call, e_get, e_pop, e_popAt, e_setdef, a_nil, a_cons, s_skip, s_seq, s_asg, s_asgT, s_asgP, s_aug, s_setI, s_app, s_clear, s_ex, s_ite, s_ret, s_retN, s_never, u_neg, u_lenL, u_lenT, u_lenS, u_listL, u_listT, u_tupL, u_tupT, u_sum, u_abs, u_all, u_isK, u_join, o_add, o_sub, o_mul, o_div, o_mod, o_pow, o_eqI, o_neI, o_lt, o_le, o_gt, o_ge, o_idx, o_max, o_min, opAdd, opSl, opIdx, opGe, kdOf, szOk, dv2, dv3, dv4, dv5, dv7, dv10, dv11, dv12, dv20, dv26, mu1, mu5, mu7, pw1, kd_str_tup, kd_str_lst, kd_str_dic, kd_str_int, kd_str_bl, kd_tup_str, kd_tup_lst, kd_tup_dic, kd_tup_int, kd_tup_bl, kd_lst_str, kd_lst_tup, kd_lst_dic, kd_lst_int, kd_lst_bl, kd_dic_str, kd_dic_tup, kd_dic_lst, kd_dic_int, kd_dic_bl, kd_int_str, kd_int_tup, kd_int_lst, kd_int_dic, kd_int_bl, kd_bl_str, kd_bl_tup, kd_bl_lst, kd_bl_dic, kd_bl_int, strL_cps, strL_len, strL_size, cut, HT.sIx, q1, q2, sB]; rfl
  have x2 : evE C (.sl (.var 3) (.var 5) .nix) [some (Sm.sh, .int c), some (Sm.sh, .str Z), some (Sm.sh, .int N), some (Sm.sh, .str (strL B)), some (Sm.sh, .int y), some (Sm.sh, .int p)] = .ok (.sh, .str (strL (B.drop p.toNat))) [some (Sm.sh, .int c), some (Sm.sh, .str Z), some (Sm.sh, .int N), some (Sm.sh, .str (strL B)), some (Sm.sh, .int y), some (Sm.sh, .int p)] := by
    have : List.take (B.length - p.toNat) (List.drop p.toNat B) = List.drop p.toNat B := List.take_of_length_le (by simp)
    simp [runF, ofE, argS, oneMu, low, evO, evI, getS, setS, rdy, ofO, finS, inp, muOf, muOk, refr, E.quiet, lows, bindTg, bind1, En.bindL, isMu, isOw, wipeE, src1, src2, ItK.two, R.bind_ok, R.toS_ok, e_var, e_own, e_fz, e_mv, e_mut, e_lit, e_gl, e_un, e_bin, e_sl, e_nix, e_chain, e_and, e_or, e_one, e_not, e_ite, e_tup, e_lst, e_dic0, e_dic1, e_call, e_get, e_pop, e_popAt, e_setdef, a_nil, a_cons, s_skip, s_seq, s_asg, s_asgT, s_asgP, s_aug, s_setI, s_app, s_clear, s_ex, s_ite, s_ret, s_retN, s_never, u_neg, u_lenL, u_lenT, u_lenS, u_listL, u_listT, u_tupL, u_tupT, u_sum, u_abs, u_all, u_isK, u_join, o_add, o_sub, o_mul, o_div, o_mod, o_pow, o_eqI, o_neI, o_lt, o_le, o_gt, o_ge, o_idx, o_max, o_min, opAdd, opSl, opIdx, opGe, kdOf, szOk, dv2, dv3, dv4, dv5, dv7, dv10, dv11, dv12, dv20, dv26, mu1, mu5, mu7, pw1, kd_str_tup, kd_str_lst, kd_str_dic, kd_str_int, kd_str_bl, kd_tup_str, kd_tup_lst, kd_tup_dic, kd_tup_int, kd_tup_bl, kd_lst_str, kd_lst_tup, kd_lst_dic, kd_lst_int, kd_lst_bl, kd_dic_str, kd_dic_tup, kd_dic_lst, kd_dic_int, kd_dic_bl, kd_int_str, kd_int_tup, kd_int_lst, kd_int_dic, kd_int_bl, kd_bl_str, kd_bl_tup, kd_bl_lst, kd_bl_dic, kd_bl_int, strL_cps, strL_len, strL_size, cut, HT.sIx, q1, q2, sB, this]; rfl
  rw [e_bin, e_bin, x1]
  simp only [R.bind_ok, l, inp, rdy, o_add, opAdd, strL_len, szOk, List.length_take, List.length_append, List.length_drop, List.length_cons, List.length_nil, Bool.false_and, Bool.false_eq_true, if_false, strL_app, ofO, x2, q2, Nat.zero_add, decide_eq_true q4, decide_eq_true q5, if_true]
theorem lcx {C : Calls} {c N : Int} {B : List Nat} {s4 : Option (Sm × D)} (h4 : NM s4) : ∀ s5, evE C (.lc [("_law_k", 4)] (.one 4) .rng (.lit (.int 6)) .nix (.lit (.bl true)) (.bin .idx (.var 1) (.bin .mod (.bin .fdiv (.var 2) (.bin .add (.lit (.int 3)) (.bin .mul (.var 4) (.var 4)))) (.lit (.int 26))))) [some (Sm.sh, .int c), some (Sm.sh, .str (strL abc)), some (Sm.sh, .int N), some (Sm.sh, .str (strL B)), s4, s5]
        = .ok (.fr, .lst ((List.range 6).map fun k : Nat => .str (strL [abcAt (N / (3 + (k : Int) * k) % 26)]))) [some (Sm.sh, .int c), some (Sm.sh, .str (strL abc)), some (Sm.sh, .int N), some (Sm.sh, .str (strL B)), none, s5] := fun s5 => by
      have hi : evI (evE C (.lit (.int 6))) (evE C .nix) .rng [some (Sm.sh, .int c), some (Sm.sh, .str (strL abc)), some (Sm.sh, .int N), some (Sm.sh, .str (strL B)), s4, s5] = .ok ((List.range 6).map fun i : Nat => .int i) [some (Sm.sh, .int c), some (Sm.sh, .str (strL abc)), some (Sm.sh, .int N), some (Sm.sh, .str (strL B)), s4, s5] := by
        rw [← rangeD0]
        exact i_rng (n := 6) rfl (by decide) (by decide)
      have ho : isOw [some (Sm.sh, .int c), some (Sm.sh, .str (strL abc)), some (Sm.sh, .int N), some (Sm.sh, .str (strL B)), s4, s5] 4 = false := by rcases h4 with rfl | ⟨d, rfl⟩ <;> rfl
      have r := e_lcM (nm := "_law_k") (e := .bin .idx (.var 1) (.bin .mod (.bin .fdiv (.var 2) (.bin .add (.lit (.int 3)) (.bin .mul (.var 4) (.var 4)))) (.lit (.int 26)))) (List.range 6) (fun i : Nat => .int i) (fun k : Nat => .str (strL [abcAt (N / (3 + (k : Int) * k) % 26)])) hi ho (by simp) (fun x hx => ⟨.sh, .inl rfl, ?_⟩) (by simp [sizeLine])
      · exact r
      · have hx6 : x < 6 := by simpa using hx
        have d1 := dvx hx6
        have y0 : (0 : Int) ≤ x ∧ (x : Int) < 6 := by omega
        revert d1 y0
        generalize (x : Int) = y
        intro d1 y0
        have m1 : mulOk y y = true := mul_l (by omega) (by omega)
        have t := t3 (C := C) (c := c) (N := N) (B := strL B) (x := y) (s5 := s5) m1 d1
        exact (e_letter (L := abc) rfl rfl t).trans (by rw [abcAt_eq]; rfl)

def wloop : Nat → List Nat → Int → List Nat × Int
  | 0, b, n => (b, n)
  | m + 1, b, n => wloop m (b ++ [abcAt (n / 7 % 26)]) (n / 11)
theorem wloop_len : ∀ m b n, (wloop m b n).1.length = b.length + m
  | 0, _, _ => rfl
  | m + 1, b, n => by rw [wloop, wloop_len m]; simp; omega
theorem wloop_let : ∀ m b n, (∀ c ∈ b, 97 ≤ c ∧ c ≤ 122) → ∀ c ∈ (wloop m b n).1, 97 ≤ c ∧ c ≤ 122
  | 0, _, _, h => h
  | m + 1, b, n, h => wloop_let m _ _ fun c hc => by
    rcases List.mem_append.mp hc with hc | hc
    · exact h c hc
    · rw [List.mem_singleton.mp hc]; exact abcAt_all _
def wnum (c : Int) : Int := c * 1000000007 % 1000000000000000000
def wbase (c : Int) : List Nat × Int := wloop (wnum c % 7).toNat [] (wnum c)
def words (c : Int) : List (List Nat) := if (wbase c).2 % 3 = 0 then (List.range 5).map fun k => ((List.range 6).map fun k : Nat => abcAt ((wbase c).2 / (3 + (k : Int) * k) % 26)).take (k + 1)
  else (List.range 5).map fun k : Nat => (wbase c).1.take ((wbase c).2 / 7 % ((wbase c).1.length + 1)).toNat ++ [abcAt (((wbase c).2 / 5 + 5 * k) % 26)] ++ (wbase c).1.drop ((wbase c).2 / 7 % ((wbase c).1.length + 1)).toNat
theorem c_words (h : At T f__law_words) (k : Nat) (c : Int) : callN T (k + 1) "_law_words" [(.sh, .int c)] = .ok (.fr, .lst ((words c).map fun w => .str (strL w))) none := by
  rw [show ("_law_words" : Str) = f__law_words.name from rfl, callN_at h]
  have loop : ∀ (m : Nat) (lo : Int) (b : List Nat) (n : Int) (s4 : Option (Sm × D)), NM s4 → b.length + m ≤ 1000 → ∃ s4', NM s4' ∧ forL (.one 4) (evS (callN T k) (.seq (.asg 3 false (.bin .add (.var 3) (.bin .idx (.var 1) (.bin .mod (.bin .fdiv (.var 2) (.lit (.int 7))) (.lit (.int 26))))))
    (.seq (.asg 2 false (.bin .fdiv (.var 2) (.lit (.int 11))))
    .skip))) (rangeD lo m) [some (Sm.sh, .int c), some (Sm.sh, .str (strL abc)), some (Sm.sh, .int n), some (Sm.sh, .str (strL b)), s4, none] = .nx [some (Sm.sh, .int c), some (Sm.sh, .str (strL abc)), some (Sm.sh, .int (wloop m b n).2), some (Sm.sh, .str (strL (wloop m b n).1)), s4', none] := by
    intro m
    induction m with
    | zero => intro lo b n s4 h4 _; exact ⟨s4, h4, by simp [rangeD, forL, wloop]⟩
    | succ m ih =>
      intro lo b n s4 h4 hl
      obtain ⟨s4', h4', e⟩ := ih (lo + 1) (b ++ [abcAt (n / 7 % 26)]) (n / 11) (some (Sm.sh, .int lo)) (.inr ⟨_, rfl⟩) (by simp; omega)
      refine ⟨s4', h4', ?_⟩
      rw [rangeD, forL, wloop]
      have sz : b.length + 1 ≤ sizeLine := by simp [sizeLine]; omega
      have s26 : abc.length ≤ sizeLine := by simp [sizeLine, abc]
      rcases h4 with rfl | ⟨d4, rfl⟩ <;> simp [runF, ofE, argS, oneMu, low, evO, evI, getS, setS, rdy, ofO, finS, inp, muOf, muOk, refr, E.quiet, lows, bindTg, bind1, En.bindL, isMu, isOw, wipeE, src1, src2, ItK.two, R.bind_ok, R.toS_ok, e_var, e_own, e_fz, e_mv, e_mut, e_lit, e_gl, e_un, e_bin, e_sl, e_nix, e_chain, e_and, e_or, e_one, e_not, e_ite, e_tup, e_lst, e_dic0, e_dic1, e_call, e_get, e_pop, e_popAt, e_setdef, a_nil, a_cons, s_skip, s_seq, s_asg, s_asgT, s_asgP, s_aug, s_setI, s_app, s_clear, s_ex, s_ite, s_ret, s_retN, s_never, u_neg, u_lenL, u_lenT, u_lenS, u_listL, u_listT, u_tupL, u_tupT, u_sum, u_abs, u_all, u_isK, u_join, o_add, o_sub, o_mul, o_div, o_mod, o_pow, o_eqI, o_neI, o_lt, o_le, o_gt, o_ge, o_idx, o_max, o_min, opAdd, opSl, opIdx, opGe, kdOf, szOk, dv2, dv3, dv4, dv5, dv7, dv10, dv11, dv12, dv20, dv26, mu1, mu5, mu7, pw1, kd_str_tup, kd_str_lst, kd_str_dic, kd_str_int, kd_str_bl, kd_tup_str, kd_tup_lst, kd_tup_dic, kd_tup_int, kd_tup_bl, kd_lst_str, kd_lst_tup, kd_lst_dic, kd_lst_int, kd_lst_bl, kd_dic_str, kd_dic_tup, kd_dic_lst, kd_dic_int, kd_dic_bl, kd_int_str, kd_int_tup, kd_int_lst, kd_int_dic, kd_int_bl, kd_bl_str, kd_bl_tup, kd_bl_lst, kd_bl_dic, kd_bl_int, strL_cps, strL_len, abc_at, strL_one, strL_app, sz, s26, e]
  obtain ⟨s4, h4, e⟩ := loop (wnum c % 7).toNat 0 [] (wnum c) none (.inl rfl) (by simp; omega)
  have hb : (wbase c).1.length ≤ 6 := by unfold wbase; rw [wloop_len]; simp; omega
  change _ = RS.nx [some (Sm.sh, .int c), some (Sm.sh, .str (strL abc)), some (Sm.sh, .int (wbase c).2), some (Sm.sh, .str (strL (wbase c).1)), s4, none] at e
  have wn : c * 1000000007 % 1000000000000000000 = wnum c := rfl
  generalize hB : (wbase c).1 = B at *
  generalize hN : (wbase c).2 = N at *
  simp only [f__law_words, b__law_words, abc_str, emp_str]
  simp [runF, ofE, argS, oneMu, low, evO, evI, getS, setS, rdy, ofO, finS, inp, muOf, muOk, refr, E.quiet, lows, bindTg, bind1, En.bindL, isMu, isOw, wipeE, src1, src2, ItK.two, R.bind_ok, R.toS_ok, e_var, e_own, e_fz, e_mv, e_mut, e_lit, e_gl, e_un, e_bin, e_sl, e_nix, e_chain, e_and, e_or, e_one, e_not, e_ite, e_tup, e_lst, e_dic0, e_dic1, e_call, e_get, e_pop, e_popAt, e_setdef, a_nil, a_cons, s_skip, s_seq, s_asg, s_asgT, s_asgP, s_aug, s_setI, s_app, s_clear, s_ex, s_ite, s_ret, s_retN, s_never, u_neg, u_lenL, u_lenT, u_lenS, u_listL, u_listT, u_tupL, u_tupT, u_sum, u_abs, u_all, u_isK, u_join, o_add, o_sub, o_mul, o_div, o_mod, o_pow, o_eqI, o_neI, o_lt, o_le, o_gt, o_ge, o_idx, o_max, o_min, opAdd, opSl, opIdx, opGe, kdOf, szOk, dv2, dv3, dv4, dv5, dv7, dv10, dv11, dv12, dv20, dv26, mu1, mu5, mu7, pw1, kd_str_tup, kd_str_lst, kd_str_dic, kd_str_int, kd_str_bl, kd_tup_str, kd_tup_lst, kd_tup_dic, kd_tup_int, kd_tup_bl, kd_lst_str, kd_lst_tup, kd_lst_dic, kd_lst_int, kd_lst_bl, kd_dic_str, kd_dic_tup, kd_dic_lst, kd_dic_int, kd_dic_bl, kd_int_str, kd_int_tup, kd_int_lst, kd_int_dic, kd_int_bl, kd_bl_str, kd_bl_tup, kd_bl_lst, kd_bl_dic, kd_bl_int]
  rw [s_for (i_rng (n := wnum c % 7) (env1 := [some (Sm.sh, .int c), some (Sm.sh, .str (strL abc)), some (Sm.sh, .int (wnum c)), some (Sm.sh, .str (strL [])), none, none]) (by simp [runF, ofE, argS, oneMu, low, evO, evI, getS, setS, rdy, ofO, finS, inp, muOf, muOk, refr, E.quiet, lows, bindTg, bind1, En.bindL, isMu, isOw, wipeE, src1, src2, ItK.two, R.bind_ok, R.toS_ok, e_var, e_own, e_fz, e_mv, e_mut, e_lit, e_gl, e_un, e_bin, e_sl, e_nix, e_chain, e_and, e_or, e_one, e_not, e_ite, e_tup, e_lst, e_dic0, e_dic1, e_call, e_get, e_pop, e_popAt, e_setdef, a_nil, a_cons, s_skip, s_seq, s_asg, s_asgT, s_asgP, s_aug, s_setI, s_app, s_clear, s_ex, s_ite, s_ret, s_retN, s_never, u_neg, u_lenL, u_lenT, u_lenS, u_listL, u_listT, u_tupL, u_tupT, u_sum, u_abs, u_all, u_isK, u_join, o_add, o_sub, o_mul, o_div, o_mod, o_pow, o_eqI, o_neI, o_lt, o_le, o_gt, o_ge, o_idx, o_max, o_min, opAdd, opSl, opIdx, opGe, kdOf, szOk, dv2, dv3, dv4, dv5, dv7, dv10, dv11, dv12, dv20, dv26, mu1, mu5, mu7, pw1, kd_str_tup, kd_str_lst, kd_str_dic, kd_str_int, kd_str_bl, kd_tup_str, kd_tup_lst, kd_tup_dic, kd_tup_int, kd_tup_bl, kd_lst_str, kd_lst_tup, kd_lst_dic, kd_lst_int, kd_lst_bl, kd_dic_str, kd_dic_tup, kd_dic_lst, kd_dic_int, kd_dic_bl, kd_int_str, kd_int_tup, kd_int_lst, kd_int_dic, kd_int_bl, kd_bl_str, kd_bl_tup, kd_bl_lst, kd_bl_dic, kd_bl_int, wn]) (by omega) (by omega)), e]
  have sB : (strL B).length ≤ sizeLine := by rw [strL_len]; simp [sizeLine]; omega
  have hp : (0 : Int) < (B.length : Int) + 1 := by omega
  have s26 : abc.length ≤ sizeLine := by simp [sizeLine, abc]
  by_cases h3 : N % 3 = 0
  · have lc1 := fun s5 => lcx (C := callN T k) (c := c) (N := N) (B := B) h4 s5
    have hj : ((List.range 6).flatMap fun k : Nat => [abcAt (N / (3 + (k : Int) * k) % 26)]) = (List.range 6).map fun k : Nat => abcAt (N / (3 + (k : Int) * k) % 26) := rfl
    have lA : lenAll ((List.range 6).map fun k : Nat => strL [abcAt (N / (3 + (k : Int) * k) % 26)]) ≤ 16777216 := by
      simp [List.range, List.range.loop, lenAll, strL_len]
    have lc2 : ∀ (J : List Nat) (s5 : Option (Sm × D)), J.length = 6 → evE (callN T k) (.lc [("_law_k", 4)] (.one 4) .rng (.lit (.int 5)) .nix (.lit (.bl true)) (.sl (.var 3) .nix (.bin .add (.var 4) (.lit (.int 1))))) [some (Sm.sh, .int c), some (Sm.sh, .str (strL abc)), some (Sm.sh, .int N), some (Sm.sh, .str (strL J)), none, s5]
        = .ok (.fr, .lst ((List.range 5).map fun k : Nat => .str (strL (J.take (k + 1))))) [some (Sm.sh, .int c), some (Sm.sh, .str (strL abc)), some (Sm.sh, .int N), some (Sm.sh, .str (strL J)), none, s5] := fun J s5 hJ => by
      generalize strL abc = Z
      have hi : evI (evE (callN T k) (.lit (.int 5))) (evE (callN T k) .nix) .rng [some (Sm.sh, .int c), some (Sm.sh, .str Z), some (Sm.sh, .int N), some (Sm.sh, .str (strL J)), none, s5] = .ok ((List.range 5).map fun i : Nat => .int i) [some (Sm.sh, .int c), some (Sm.sh, .str Z), some (Sm.sh, .int N), some (Sm.sh, .str (strL J)), none, s5] := by
        rw [← rangeD0]
        exact i_rng (n := 5) rfl (by decide) (by decide)
      have r := e_lcM (nm := "_law_k") (i := 4) (e := .sl (.var 3) .nix (.bin .add (.var 4) (.lit (.int 1)))) (List.range 5) (fun i : Nat => .int i) (fun k : Nat => .str (strL (J.take (k + 1)))) hi rfl (by simp) (fun x hx => ⟨.sh, .inl rfl, ?_⟩) (by simp [sizeLine])
      · exact r
      · have hx5 : x < 5 := by simpa using hx
        have e1 : ((x : Int) + 1).toNat = x + 1 := by omega
        have e2 : ¬ ((x : Int) + 1 < 0) := by omega
        have e3 : min (x + 1) 6 = x + 1 := by omega
        have s6 : 6 ≤ sizeLine := by decide
        simp [runF, ofE, argS, oneMu, low, evO, evI, getS, setS, rdy, ofO, finS, inp, muOf, muOk, refr, E.quiet, lows, bindTg, bind1, En.bindL, isMu, isOw, wipeE, src1, src2, ItK.two, R.bind_ok, R.toS_ok, e_var, e_own, e_fz, e_mv, e_mut, e_lit, e_gl, e_un, e_bin, e_sl, e_nix, e_chain, e_and, e_or, e_one, e_not, e_ite, e_tup, e_lst, e_dic0, e_dic1, e_call, e_get, e_pop, e_popAt, e_setdef, a_nil, a_cons, s_skip, s_seq, s_asg, s_asgT, s_asgP, s_aug, s_setI, s_app, s_clear, s_ex, s_ite, s_ret, s_retN, s_never, u_neg, u_lenL, u_lenT, u_lenS, u_listL, u_listT, u_tupL, u_tupT, u_sum, u_abs, u_all, u_isK, u_join, o_add, o_sub, o_mul, o_div, o_mod, o_pow, o_eqI, o_neI, o_lt, o_le, o_gt, o_ge, o_idx, o_max, o_min, opAdd, opSl, opIdx, opGe, kdOf, szOk, dv2, dv3, dv4, dv5, dv7, dv10, dv11, dv12, dv20, dv26, mu1, mu5, mu7, pw1, kd_str_tup, kd_str_lst, kd_str_dic, kd_str_int, kd_str_bl, kd_tup_str, kd_tup_lst, kd_tup_dic, kd_tup_int, kd_tup_bl, kd_lst_str, kd_lst_tup, kd_lst_dic, kd_lst_int, kd_lst_bl, kd_dic_str, kd_dic_tup, kd_dic_lst, kd_dic_int, kd_dic_bl, kd_int_str, kd_int_tup, kd_int_lst, kd_int_dic, kd_int_bl, kd_bl_str, kd_bl_tup, kd_bl_lst, kd_bl_dic, kd_bl_int, strL_cps, strL_len, cut, HT.sIx, hJ, e1, e2, e3, s6, strL_size]
        rfl
    have w1 : words c = (List.range 5).map fun k => ((List.range 6).map fun k : Nat => abcAt (N / (3 + (k : Int) * k) % 26)).take (k + 1) := by
      unfold words; rw [hN, if_pos h3]
    rw [w1]
    generalize hJ : ((List.range 6).map fun k : Nat => abcAt (N / (3 + (k : Int) * k) % 26)) = J at *
    have hJ6 : J.length = 6 := by rw [← hJ]; rfl
    have jn : joinS ((List.range 6).map fun k : Nat => strL [abcAt (N / (3 + (k : Int) * k) % 26)]) = strL J := by rw [join_map, hj]
    have sm : strs? ((List.range 6).map fun k : Nat => .str (strL [abcAt (N / (3 + (k : Int) * k) % 26)])) = some ((List.range 6).map fun k : Nat => strL [abcAt (N / (3 + (k : Int) * k) % 26)]) := strs_map _ _
    have lc2' := lc2 J (some (Sm.sh, .int (N / 7 % ((B.length : Int) + 1)))) hJ6
    have lc1' := lc1 (some (Sm.sh, .int (N / 7 % ((B.length : Int) + 1))))
    clear hj hJ lc1 lc2 e loop
    generalize ((List.range 6).map fun k : Nat => strL [abcAt (N / (3 + (k : Int) * k) % 26)]) = Q1 at *
    generalize ((List.range 6).map fun k : Nat => D.str (strL [abcAt (N / (3 + (k : Int) * k) % 26)])) = Q2 at *
    generalize strL abc = Z at *
    rw [strL_len] at sB
    simp [runF, ofE, argS, oneMu, low, evO, evI, getS, setS, rdy, ofO, finS, inp, muOf, muOk, refr, E.quiet, lows, bindTg, bind1, En.bindL, isMu, isOw, wipeE, src1, src2, ItK.two, R.bind_ok, R.toS_ok, e_var, e_own, e_fz, e_mv, e_mut, e_lit, e_gl, e_un, e_bin, e_sl, e_nix, e_chain, e_and, e_or, e_one, e_not, e_ite, e_tup, e_lst, e_dic0, e_dic1, e_call, e_get, e_pop, e_popAt, e_setdef, a_nil, a_cons, s_skip, s_seq, s_asg, s_asgT, s_asgP, s_aug, s_setI, s_app, s_clear, s_ex, s_ite, s_ret, s_retN, s_never, u_neg, u_lenL, u_lenT, u_lenS, u_listL, u_listT, u_tupL, u_tupT, u_sum, u_abs, u_all, u_isK, u_join, o_add, o_sub, o_mul, o_div, o_mod, o_pow, o_eqI, o_neI, o_lt, o_le, o_gt, o_ge, o_idx, o_max, o_min, opAdd, opSl, opIdx, opGe, kdOf, szOk, dv2, dv3, dv4, dv5, dv7, dv10, dv11, dv12, dv20, dv26, mu1, mu5, mu7, pw1, kd_str_tup, kd_str_lst, kd_str_dic, kd_str_int, kd_str_bl, kd_tup_str, kd_tup_lst, kd_tup_dic, kd_tup_int, kd_tup_bl, kd_lst_str, kd_lst_tup, kd_lst_dic, kd_lst_int, kd_lst_bl, kd_dic_str, kd_dic_tup, kd_dic_lst, kd_dic_int, kd_dic_bl, kd_int_str, kd_int_tup, kd_int_lst, kd_int_dic, kd_int_bl, kd_bl_str, kd_bl_tup, kd_bl_lst, kd_bl_dic, kd_bl_int, strL_len, sB, hp, h3, lc1', sm, lA, jn, lc2']
  · have a0 : 0 ≤ N / 7 % ((B.length : Int) + 1) ∧ N / 7 % ((B.length : Int) + 1) ≤ B.length := by
      have := Int.emod_nonneg (N / 7) (b := (B.length : Int) + 1) (by omega)
      have := Int.emod_lt_of_pos (N / 7) hp
      omega
    have w2 : words c = (List.range 5).map fun k : Nat => B.take (N / 7 % ((B.length : Int) + 1)).toNat ++ [abcAt ((N / 5 + 5 * (k : Int)) % 26)] ++ B.drop (N / 7 % ((B.length : Int) + 1)).toNat := by
      unfold words; rw [hN, hB, if_neg h3]
    rw [w2]
    generalize hpp : N / 7 % ((B.length : Int) + 1) = p at *
    have lc3 : evE (callN T k) (.lc [("_law_k", 4)] (.one 4) .rng (.lit (.int 5)) .nix (.lit (.bl true)) (.bin .add (.bin .add (.sl (.var 3) .nix (.var 5)) (.bin .idx (.var 1) (.bin .mod (.bin .add (.bin .fdiv (.var 2) (.lit (.int 5))) (.bin .mul (.lit (.int 5)) (.var 4))) (.lit (.int 26))))) (.sl (.var 3) (.var 5) .nix))) [some (Sm.sh, .int c), some (Sm.sh, .str (strL abc)), some (Sm.sh, .int N), some (Sm.sh, .str (strL B)), s4, some (Sm.sh, .int p)]
        = .ok (.fr, .lst ((List.range 5).map fun k : Nat => .str (strL (B.take p.toNat ++ [abcAt ((N / 5 + 5 * (k : Int)) % 26)] ++ B.drop p.toNat)))) [some (Sm.sh, .int c), some (Sm.sh, .str (strL abc)), some (Sm.sh, .int N), some (Sm.sh, .str (strL B)), none, some (Sm.sh, .int p)] := by
      have hi : evI (evE (callN T k) (.lit (.int 5))) (evE (callN T k) .nix) .rng [some (Sm.sh, .int c), some (Sm.sh, .str (strL abc)), some (Sm.sh, .int N), some (Sm.sh, .str (strL B)), s4, some (Sm.sh, .int p)] = .ok ((List.range 5).map fun i : Nat => .int i) [some (Sm.sh, .int c), some (Sm.sh, .str (strL abc)), some (Sm.sh, .int N), some (Sm.sh, .str (strL B)), s4, some (Sm.sh, .int p)] := by
        rw [← rangeD0]
        exact i_rng (n := 5) rfl (by decide) (by decide)
      have ho : isOw [some (Sm.sh, .int c), some (Sm.sh, .str (strL abc)), some (Sm.sh, .int N), some (Sm.sh, .str (strL B)), s4, some (Sm.sh, .int p)] 4 = false := by rcases h4 with rfl | ⟨d, rfl⟩ <;> rfl
      have r := e_lcM (nm := "_law_k") (i := 4) (e := (.bin .add (.bin .add (.sl (.var 3) .nix (.var 5)) (.bin .idx (.var 1) (.bin .mod (.bin .add (.bin .fdiv (.var 2) (.lit (.int 5))) (.bin .mul (.lit (.int 5)) (.var 4))) (.lit (.int 26))))) (.sl (.var 3) (.var 5) .nix))) (List.range 5) (fun i : Nat => .int i) (fun k : Nat => .str (strL (B.take p.toNat ++ [abcAt ((N / 5 + 5 * (k : Int)) % 26)] ++ B.drop p.toNat))) hi ho (by simp) (fun x hx => ⟨.sh, .inl rfl, ?_⟩) (by simp [sizeLine])
      · exact r
      · exact word_one hb a0.1 a0.2
    clear loop e w2 hb
    generalize strL abc = Z at *
    rw [strL_len] at sB
    simp [runF, ofE, argS, oneMu, low, evO, evI, getS, setS, rdy, ofO, finS, inp, muOf, muOk, refr, E.quiet, lows, bindTg, bind1, En.bindL, isMu, isOw, wipeE, src1, src2, ItK.two, R.bind_ok, R.toS_ok, e_var, e_own, e_fz, e_mv, e_mut, e_lit, e_gl, e_un, e_bin, e_sl, e_nix, e_chain, e_and, e_or, e_one, e_not, e_ite, e_tup, e_lst, e_dic0, e_dic1, e_call, e_get, e_pop, e_popAt, e_setdef, a_nil, a_cons, s_skip, s_seq, s_asg, s_asgT, s_asgP, s_aug, s_setI, s_app, s_clear, s_ex, s_ite, s_ret, s_retN, s_never, u_neg, u_lenL, u_lenT, u_lenS, u_listL, u_listT, u_tupL, u_tupT, u_sum, u_abs, u_all, u_isK, u_join, o_add, o_sub, o_mul, o_div, o_mod, o_pow, o_eqI, o_neI, o_lt, o_le, o_gt, o_ge, o_idx, o_max, o_min, opAdd, opSl, opIdx, opGe, kdOf, szOk, dv2, dv3, dv4, dv5, dv7, dv10, dv11, dv12, dv20, dv26, mu1, mu5, mu7, pw1, kd_str_tup, kd_str_lst, kd_str_dic, kd_str_int, kd_str_bl, kd_tup_str, kd_tup_lst, kd_tup_dic, kd_tup_int, kd_tup_bl, kd_lst_str, kd_lst_tup, kd_lst_dic, kd_lst_int, kd_lst_bl, kd_dic_str, kd_dic_tup, kd_dic_lst, kd_dic_int, kd_dic_bl, kd_int_str, kd_int_tup, kd_int_lst, kd_int_dic, kd_int_bl, kd_bl_str, kd_bl_tup, kd_bl_lst, kd_bl_dic, kd_bl_int, strL_len, sB, hp, h3, hpp, lc3]
end
end Pu
end

section
set_option Elab.async false
set_option linter.all false
set_option maxRecDepth 100000
set_option maxHeartbeats 1000000
namespace Pu
open En PySem Sh
theorem words_len (c : Int) : (words c).length = 5 := by
  unfold words; split <;> simp
def cnts (c : Int) : List Nat := match (c / 3 % 4).toNat with
  | 0 => [0, 2, 1, 0, 3]
  | 1 => [0, 1, 2, 2, 0]
  | 2 => [0, 3, 1, 1, 0]
  | _ => [0, 2, 0, 1, 1]
def manyS (c : Int) : Nat := (2 + c / 12 % 4).toNat
def sorts (c : Int) : List (Str × Nat) := (List.range (manyS c)).map fun k => (strL ((words c).getD k []), (cnts c).getD k 0)
def soD (p : Str × Nat) : D := .tup [.str p.1, .int p.2]
theorem cnts_len (c : Int) : (cnts c).length = 5 := by unfold cnts; split <;> rfl
section
variable {T : Tab}
theorem c_sorts (h : At T f__law_words) (h2 : At T f__law_sorts) (k : Nat) (c : Int) : callN T (k + 2) "_law_sorts" [(.sh, .int c)] = .ok (.fr, .lst ((sorts c).map soD)) none := by
  rw [show ("_law_sorts" : Str) = f__law_sorts.name from rfl, callN_at h2]
  have ew := c_words h k c
  have m4 : 0 ≤ c / 12 % 4 ∧ c / 12 % 4 < 4 := by omega
  have q4 : 0 ≤ c / 3 % 4 ∧ c / 3 % 4 < 4 := by omega
  have ec : ∀ (env : En.Env), L2.atI [D.lst [.int 0, .int 2, .int 1, .int 0, .int 3], .lst [.int 0, .int 1, .int 2, .int 2, .int 0], .lst [.int 0, .int 3, .int 1, .int 1, .int 0], .lst [.int 0, .int 2, .int 0, .int 1, .int 1]] (c / 3 % 4) = some (.lst ((cnts c).map fun n : Nat => .int n)) := fun _ => by
    unfold cnts
    generalize c / 3 % 4 = z at *
    have : z = 0 ∨ z = 1 ∨ z = 2 ∨ z = 3 := by omega
    rcases this with rfl | rfl | rfl | rfl <;> rfl
  have lc : ∀ s4, NM s4 → evE (callN T (k + 1)) (.lc [("_law_k", 4)] (.one 4) .rng (.var 3) .nix (.lit (.bl true)) (.tup (.cons (.bin .idx (.var 1) (.var 4)) (.cons (.bin .idx (.var 2) (.var 4)) .nil)))) [some (Sm.sh, .int c), some (Sm.sh, .lst ((words c).map fun w => .str (strL w))), some (Sm.sh, .lst ((cnts c).map fun n : Nat => .int n)), some (Sm.sh, .int (2 + c / 12 % 4)), s4]
      = .ok (.fr, .lst ((sorts c).map soD)) [some (Sm.sh, .int c), some (Sm.sh, .lst ((words c).map fun w => .str (strL w))), some (Sm.sh, .lst ((cnts c).map fun n : Nat => .int n)), some (Sm.sh, .int (2 + c / 12 % 4)), none] := fun s4 h4 => by
    have hi : evI (evE (callN T (k + 1)) (.var 3)) (evE (callN T (k + 1)) .nix) .rng [some (Sm.sh, .int c), some (Sm.sh, .lst ((words c).map fun w => .str (strL w))), some (Sm.sh, .lst ((cnts c).map fun n : Nat => .int n)), some (Sm.sh, .int (2 + c / 12 % 4)), s4] = .ok ((List.range (manyS c)).map fun i : Nat => .int i) [some (Sm.sh, .int c), some (Sm.sh, .lst ((words c).map fun w => .str (strL w))), some (Sm.sh, .lst ((cnts c).map fun n : Nat => .int n)), some (Sm.sh, .int (2 + c / 12 % 4)), s4] := by
      rw [← rangeD0]
      exact i_rng (n := 2 + c / 12 % 4) rfl (by omega) (by omega)
    have ho : isOw [some (Sm.sh, .int c), some (Sm.sh, .lst ((words c).map fun w => .str (strL w))), some (Sm.sh, .lst ((cnts c).map fun n : Nat => .int n)), some (Sm.sh, .int (2 + c / 12 % 4)), s4] 4 = false := by rcases h4 with rfl | ⟨d, rfl⟩ <;> rfl
    have r := e_lcM (nm := "_law_k") (i := 4) (e := (.tup (.cons (.bin .idx (.var 1) (.var 4)) (.cons (.bin .idx (.var 2) (.var 4)) .nil)))) (List.range (manyS c)) (fun i : Nat => .int i) (fun k : Nat => soD (strL ((words c).getD k []), (cnts c).getD k 0)) hi ho (by simp) (fun x hx => ⟨.sh, .inl rfl, ?_⟩) (by simp [sizeLine, manyS]; omega)
    · rw [r]; simp [sorts, Function.comp_def]
    · have hx5 : x < 5 := by have : x < manyS c := by simpa using hx
                             unfold manyS at this; omega
      have g1 : L2.atI ((words c).map fun w => D.str (strL w)) (x : Int) = some (.str (strL ((words c).getD x []))) := by
        rw [atI_get (d := .str (strL [])) (by omega) (by simp [words_len]; omega)]
        simp [List.getD_eq_getElem?_getD, List.getElem?_eq_getElem (show x < (words c).length by rw [words_len]; omega)]
      have g2 : L2.atI ((cnts c).map fun n : Nat => D.int n) (x : Int) = some (.int ((cnts c).getD x 0 : Nat)) := by
        rw [atI_get (d := .int 0) (by omega) (by simp [cnts_len]; omega)]
        simp [List.getD_eq_getElem?_getD, List.getElem?_eq_getElem (show x < (cnts c).length by rw [cnts_len]; omega)]
      have s2 : 2 ≤ sizeLine := by decide
      simp [runF, ofE, argS, oneMu, low, evO, evI, getS, setS, rdy, ofO, finS, inp, muOf, muOk, refr, E.quiet, lows, bindTg, bind1, En.bindL, isMu, isOw, wipeE, src1, src2, ItK.two, R.bind_ok, R.toS_ok, e_var, e_own, e_fz, e_mv, e_mut, e_lit, e_gl, e_un, e_bin, e_sl, e_nix, e_chain, e_and, e_or, e_one, e_not, e_ite, e_tup, e_lst, e_dic0, e_dic1, e_call, e_get, e_pop, e_popAt, e_setdef, a_nil, a_cons, s_skip, s_seq, s_asg, s_asgT, s_asgP, s_aug, s_setI, s_app, s_clear, s_ex, s_ite, s_ret, s_retN, s_never, u_neg, u_lenL, u_lenT, u_lenS, u_listL, u_listT, u_tupL, u_tupT, u_sum, u_abs, u_all, u_isK, u_join, o_add, o_sub, o_mul, o_div, o_mod, o_pow, o_eqI, o_neI, o_lt, o_le, o_gt, o_ge, o_idx, o_max, o_min, opAdd, opSl, opIdx, opGe, kdOf, szOk, dv2, dv3, dv4, dv5, dv7, dv10, dv11, dv12, dv20, dv26, mu1, mu5, mu7, pw1, kd_str_tup, kd_str_lst, kd_str_dic, kd_str_int, kd_str_bl, kd_tup_str, kd_tup_lst, kd_tup_dic, kd_tup_int, kd_tup_bl, kd_lst_str, kd_lst_tup, kd_lst_dic, kd_lst_int, kd_lst_bl, kd_dic_str, kd_dic_tup, kd_dic_lst, kd_dic_int, kd_dic_bl, kd_int_str, kd_int_tup, kd_int_lst, kd_int_dic, kd_int_bl, kd_bl_str, kd_bl_tup, kd_bl_lst, kd_bl_dic, kd_bl_int, g1, g2, soD, s2]
  have ec' := ec []
  generalize (words c).map (fun w => D.str (strL w)) = W at *
  generalize (cnts c).map (fun n : Nat => D.int n) = Q at *
  have lc' := lc none (.inl rfl)
  have s4 : 4 ≤ sizeLine := by decide
  have s5 : 5 ≤ sizeLine := by decide
  simp only [f__law_sorts, b__law_sorts]
  simp [runF, ofE, argS, oneMu, low, evO, evI, getS, setS, rdy, ofO, finS, inp, muOf, muOk, refr, E.quiet, lows, bindTg, bind1, En.bindL, isMu, isOw, wipeE, src1, src2, ItK.two, R.bind_ok, R.toS_ok, e_var, e_own, e_fz, e_mv, e_mut, e_lit, e_gl, e_un, e_bin, e_sl, e_nix, e_chain, e_and, e_or, e_one, e_not, e_ite, e_tup, e_lst, e_dic0, e_dic1, e_call, e_get, e_pop, e_popAt, e_setdef, a_nil, a_cons, s_skip, s_seq, s_asg, s_asgT, s_asgP, s_aug, s_setI, s_app, s_clear, s_ex, s_ite, s_ret, s_retN, s_never, u_neg, u_lenL, u_lenT, u_lenS, u_listL, u_listT, u_tupL, u_tupT, u_sum, u_abs, u_all, u_isK, u_join, o_add, o_sub, o_mul, o_div, o_mod, o_pow, o_eqI, o_neI, o_lt, o_le, o_gt, o_ge, o_idx, o_max, o_min, opAdd, opSl, opIdx, opGe, kdOf, szOk, dv2, dv3, dv4, dv5, dv7, dv10, dv11, dv12, dv20, dv26, mu1, mu5, mu7, pw1, kd_str_tup, kd_str_lst, kd_str_dic, kd_str_int, kd_str_bl, kd_tup_str, kd_tup_lst, kd_tup_dic, kd_tup_int, kd_tup_bl, kd_lst_str, kd_lst_tup, kd_lst_dic, kd_lst_int, kd_lst_bl, kd_dic_str, kd_dic_tup, kd_dic_lst, kd_dic_int, kd_dic_bl, kd_int_str, kd_int_tup, kd_int_lst, kd_int_dic, kd_int_bl, kd_bl_str, kd_bl_tup, kd_bl_lst, kd_bl_dic, kd_bl_int, ew, ec', lc', s4, s5]
end
end Pu
end

section
set_option Elab.async false
set_option linter.all false
set_option maxRecDepth 100000
set_option maxHeartbeats 1000000
namespace Pu
open En PySem Sh
def blanksL (c : Int) : List Str := (List.range (1 + c / 26 % 4).toNat).map fun k : Nat => strL [ABCAt ((c % 26 + 7 * (k : Int)) % 26)]
theorem ABCAt_eq (i : Int) : ABC.getD (i % 26).toNat 0 = ABCAt (i % 26) := by
  unfold ABCAt
  rw [List.getD_eq_getElem?_getD, List.getD_eq_getElem?_getD, List.getElem?_eq_getElem (by simp [ABC]; omega)]; rfl
section
variable {T : Tab}
theorem c_blanks (h : At T f__law_blanks) (k : Nat) (c : Int) : callN T (k + 1) "_law_blanks" [(.sh, .int c)] = .ok (.fr, .lst ((blanksL c).map D.str)) none := by
  rw [show ("_law_blanks" : Str) = f__law_blanks.name from rfl, callN_at h]
  have lc : evE (callN T k) (.lc [("_law_k", 2)] (.one 2) .rng (.bin .add (.lit (.int 1)) (.bin .mod (.bin .fdiv (.var 0) (.lit (.int 26))) (.lit (.int 4)))) .nix (.lit (.bl true)) (.bin .idx (.var 1) (.bin .mod (.bin .add (.bin .mod (.var 0) (.lit (.int 26))) (.bin .mul (.lit (.int 7)) (.var 2))) (.lit (.int 26))))) [some (Sm.sh, .int c), some (Sm.sh, .str (strL ABC)), none]
      = .ok (.fr, .lst ((blanksL c).map D.str)) [some (Sm.sh, .int c), some (Sm.sh, .str (strL ABC)), none] := by
    have hi : evI (evE (callN T k) (.bin .add (.lit (.int 1)) (.bin .mod (.bin .fdiv (.var 0) (.lit (.int 26))) (.lit (.int 4))))) (evE (callN T k) .nix) .rng [some (Sm.sh, .int c), some (Sm.sh, .str (strL ABC)), none] = .ok ((List.range (1 + c / 26 % 4).toNat).map fun i : Nat => .int i) [some (Sm.sh, .int c), some (Sm.sh, .str (strL ABC)), none] := by
      rw [← rangeD0]
      exact i_rng (n := 1 + c / 26 % 4) (by generalize strL ABC = Z; simp [runF, ofE, argS, oneMu, low, evO, evI, getS, setS, rdy, ofO, finS, inp, muOf, muOk, refr, E.quiet, lows, bindTg, bind1, En.bindL, isMu, isOw, wipeE, src1, src2, ItK.two, R.bind_ok, R.toS_ok, e_var, e_own, e_fz, e_mv, e_mut, e_lit, e_gl, e_un, e_bin, e_sl, e_nix, e_chain, e_and, e_or, e_one, e_not, e_ite, e_tup, e_lst, e_dic0, e_dic1, e_call, e_get, e_pop, e_popAt, e_setdef, a_nil, a_cons, s_skip, s_seq, s_asg, s_asgT, s_asgP, s_aug, s_setI, s_app, s_clear, s_ex, s_ite, s_ret, s_retN, s_never, u_neg, u_lenL, u_lenT, u_lenS, u_listL, u_listT, u_tupL, u_tupT, u_sum, u_abs, u_all, u_isK, u_join, o_add, o_sub, o_mul, o_div, o_mod, o_pow, o_eqI, o_neI, o_lt, o_le, o_gt, o_ge, o_idx, o_max, o_min, opAdd, opSl, opIdx, opGe, kdOf, szOk, dv2, dv3, dv4, dv5, dv7, dv10, dv11, dv12, dv20, dv26, mu1, mu5, mu7, pw1, kd_str_tup, kd_str_lst, kd_str_dic, kd_str_int, kd_str_bl, kd_tup_str, kd_tup_lst, kd_tup_dic, kd_tup_int, kd_tup_bl, kd_lst_str, kd_lst_tup, kd_lst_dic, kd_lst_int, kd_lst_bl, kd_dic_str, kd_dic_tup, kd_dic_lst, kd_dic_int, kd_dic_bl, kd_int_str, kd_int_tup, kd_int_lst, kd_int_dic, kd_int_bl, kd_bl_str, kd_bl_tup, kd_bl_lst, kd_bl_dic, kd_bl_int]) (by omega) (by omega)
    have r := e_lcM (nm := "_law_k") (i := 2) (e := .bin .idx (.var 1) (.bin .mod (.bin .add (.bin .mod (.var 0) (.lit (.int 26))) (.bin .mul (.lit (.int 7)) (.var 2))) (.lit (.int 26)))) (List.range (1 + c / 26 % 4).toNat) (fun i : Nat => .int i) (fun k : Nat => .str (strL [ABCAt ((c % 26 + 7 * (k : Int)) % 26)])) hi rfl (by simp) (fun x hx => ⟨.sh, .inl rfl, ?_⟩) (by simp [sizeLine]; omega)
    · rw [r]; simp [blanksL, Function.comp_def]
    · have t : ∀ (Z : Str) (y : Int), evE (callN T k) (.bin .add (.bin .mod (.var 0) (.lit (.int 26))) (.bin .mul (.lit (.int 7)) (.var 2))) [some (Sm.sh, .int c), some (Sm.sh, .str Z), some (Sm.sh, .int y)] = .ok (.sh, .int (c % 26 + 7 * y)) [some (Sm.sh, .int c), some (Sm.sh, .str Z), some (Sm.sh, .int y)] := fun Z y => by simp [runF, ofE, argS, oneMu, low, evO, evI, getS, setS, rdy, ofO, finS, inp, muOf, muOk, refr, E.quiet, lows, bindTg, bind1, En.bindL, isMu, isOw, wipeE, src1, src2, ItK.two, R.bind_ok, R.toS_ok, e_var, e_own, e_fz, e_mv, e_mut, e_lit, e_gl, e_un, e_bin, e_sl, e_nix, e_chain, e_and, e_or, e_one, e_not, e_ite, e_tup, e_lst, e_dic0, e_dic1, e_call, e_get, e_pop, e_popAt, e_setdef, a_nil, a_cons, s_skip, s_seq, s_asg, s_asgT, s_asgP, s_aug, s_setI, s_app, s_clear, s_ex, s_ite, s_ret, s_retN, s_never, u_neg, u_lenL, u_lenT, u_lenS, u_listL, u_listT, u_tupL, u_tupT, u_sum, u_abs, u_all, u_isK, u_join, o_add, o_sub, o_mul, o_div, o_mod, o_pow, o_eqI, o_neI, o_lt, o_le, o_gt, o_ge, o_idx, o_max, o_min, opAdd, opSl, opIdx, opGe, kdOf, szOk, dv2, dv3, dv4, dv5, dv7, dv10, dv11, dv12, dv20, dv26, mu1, mu5, mu7, pw1, kd_str_tup, kd_str_lst, kd_str_dic, kd_str_int, kd_str_bl, kd_tup_str, kd_tup_lst, kd_tup_dic, kd_tup_int, kd_tup_bl, kd_lst_str, kd_lst_tup, kd_lst_dic, kd_lst_int, kd_lst_bl, kd_dic_str, kd_dic_tup, kd_dic_lst, kd_dic_int, kd_dic_bl, kd_int_str, kd_int_tup, kd_int_lst, kd_int_dic, kd_int_bl, kd_bl_str, kd_bl_tup, kd_bl_lst, kd_bl_dic, kd_bl_int]
      exact (e_letter (L := ABC) rfl rfl (t (strL ABC) x)).trans (by rw [ABCAt_eq]; rfl)
  simp only [f__law_blanks, b__law_blanks, ABC_str]
  generalize strL ABC = Z at *
  simp [runF, ofE, argS, oneMu, low, evO, evI, getS, setS, rdy, ofO, finS, inp, muOf, muOk, refr, E.quiet, lows, bindTg, bind1, En.bindL, isMu, isOw, wipeE, src1, src2, ItK.two, R.bind_ok, R.toS_ok, e_var, e_own, e_fz, e_mv, e_mut, e_lit, e_gl, e_un, e_bin, e_sl, e_nix, e_chain, e_and, e_or, e_one, e_not, e_ite, e_tup, e_lst, e_dic0, e_dic1, e_call, e_get, e_pop, e_popAt, e_setdef, a_nil, a_cons, s_skip, s_seq, s_asg, s_asgT, s_asgP, s_aug, s_setI, s_app, s_clear, s_ex, s_ite, s_ret, s_retN, s_never, u_neg, u_lenL, u_lenT, u_lenS, u_listL, u_listT, u_tupL, u_tupT, u_sum, u_abs, u_all, u_isK, u_join, o_add, o_sub, o_mul, o_div, o_mod, o_pow, o_eqI, o_neI, o_lt, o_le, o_gt, o_ge, o_idx, o_max, o_min, opAdd, opSl, opIdx, opGe, kdOf, szOk, dv2, dv3, dv4, dv5, dv7, dv10, dv11, dv12, dv20, dv26, mu1, mu5, mu7, pw1, kd_str_tup, kd_str_lst, kd_str_dic, kd_str_int, kd_str_bl, kd_tup_str, kd_tup_lst, kd_tup_dic, kd_tup_int, kd_tup_bl, kd_lst_str, kd_lst_tup, kd_lst_dic, kd_lst_int, kd_lst_bl, kd_dic_str, kd_dic_tup, kd_dic_lst, kd_dic_int, kd_dic_bl, kd_int_str, kd_int_tup, kd_int_lst, kd_int_dic, kd_int_bl, kd_bl_str, kd_bl_tup, kd_bl_lst, kd_bl_dic, kd_bl_int, lc]
end
/-! ### rows that grow -/
def roD (t : Tm) : D := .lst [toD t, .int (dep t)]
def grown (row : List Tm) (num : Int) (so : List (Str × Nat)) (bs : List Str) (most : Nat) : List Tm :=
  let p := so.getD (num % so.length).toNat (⟨#[]⟩, 0)
  if 0 < p.2 ∧ p.2 ≤ row.length ∧ deps (row.drop (row.length - p.2)) < most ∧ 0 < num / 20 % 4 then row.take (row.length - p.2) ++ [.nd p.1 (row.drop (row.length - p.2))]
  else if bs = [] ∨ num / 20 / 4 % 3 = 0 then row ++ [.nd (so.getD 0 (⟨#[]⟩, 0)).1 []]
  else row ++ [.bl (bs.getD (num / 20 / 12 % bs.length).toNat ⟨#[]⟩)]
theorem foldl_max : ∀ (l : List Int) (a b : Int), l.foldl max (max a b) = max a (l.foldl max b)
  | [], a, b => rfl
  | x :: l, a, b => by
    rw [List.foldl_cons, List.foldl_cons, ← foldl_max l a (max b x)]
    congr 1
    omega
theorem max_deps : ∀ ts : List Tm, (match ts.map (fun t => ((dep t : Nat) : Int)) with | [] => (0 : Int) | m :: r => r.foldl max m) = ((deps ts : Nat) : Int)
  | [] => rfl
  | t :: ts => by
    have ih := max_deps ts
    rw [deps]
    simp only [List.map_cons]
    cases ts with
    | nil => simp [deps]
    | cons u us =>
      simp only [List.map_cons] at ih ⊢
      rw [List.foldl_cons, foldl_max, ih]
      omega
theorem eqOk_strs {bs : List Str} (h : ∀ s ∈ bs, PyData.strOk s = true) : (D.lst (bs.map D.str)).eqOk = true := by
  have a : ∀ bs : List Str, (∀ s ∈ bs, PyData.strOk s = true) → PyData.canLayAll0 (D.toPs (bs.map D.str)) = true ∧ PyData.depthAll (D.toPs (bs.map D.str)) = 0 := by
    intro bs
    induction bs with
    | nil => intro _; exact ⟨rfl, rfl⟩
    | cons b bs ih =>
      intro h
      obtain ⟨i1, i2⟩ := ih fun s hs => h s (.tail _ hs)
      refine ⟨?_, ?_⟩
      · show (PyData.strOk b && PyData.canLayAll0 (D.toPs (bs.map D.str))) = true
        rw [h b (.head _), i1]; rfl
      · show max 0 (PyData.depthAll (D.toPs (bs.map D.str))) = 0
        rw [i2]; rfl
  obtain ⟨a1, a2⟩ := a bs h
  show (PyData.canLayAll0 (D.toPs (bs.map D.str)) && decide (PyData.depthAll (D.toPs (bs.map D.str)) + 1 ≤ 150)) = true
  rw [a1, a2]; rfl
theorem eq_strs_nil (bs : List Str) : D.eq (.lst (bs.map D.str)) (.lst []) = decide (bs = []) := by
  cases bs with
  | nil => rfl
  | cons b bs => rfl
theorem o_eqNil {bs : List Str} (h : ∀ s ∈ bs, PyData.strOk s = true) : op2 .eq (.lst (bs.map D.str)) (.lst []) = some (.sh, .bl (decide (bs = []))) := by
  rw [o_eq (eqOk_strs h) rfl, eq_strs_nil]
section
variable {T : Tab}
theorem c_grown (h : At T f__law_grown) (k : Nat) (row : List Tm) (num : Int) (so : List (Str × Nat)) (bs : List Str) (most : Nat) (hso : so ≠ []) (hsz : so.length ≤ 1000) (hbs : ∀ s ∈ bs, PyData.strOk s = true) (hbz : bs.length ≤ 1000) (hr : row.length ≤ 1000) :
    callN T (k + 1) "_law_grown" [(.sh, .lst (row.map roD)), (.sh, .int num), (.sh, .lst (so.map soD)), (.sh, .lst (bs.map D.str)), (.sh, .int most)] = .ok (.fr, .lst ((grown row num so bs most).map roD)) none := by
  rw [show ("_law_grown" : Str) = f__law_grown.name from rfl, callN_at h]
  have sl0 : 0 < so.length := List.length_pos_iff.mpr hso
  have n0 := Int.emod_nonneg num (b := (so.length : Int)) (by omega)
  have n1 := Int.emod_lt_of_pos num (b := (so.length : Int)) (by omega)
  have g1 : L2.atI (so.map soD) (num % (so.length : Int)) = some (soD (so.getD (num % so.length).toNat (⟨#[]⟩, 0))) := by
    rw [atI_get (d := .non) n0 (by simp; omega)]
    rw [List.getD_eq_getElem?_getD, List.getD_eq_getElem?_getD, List.getElem?_map, List.getElem?_eq_getElem (show (num % so.length).toNat < so.length by omega)]; rfl
  have g0 : L2.atI (so.map soD) 0 = some (soD (so.getD 0 (⟨#[]⟩, 0))) := by
    rw [atI_get (d := .non) (by omega) (by simp; omega)]
    simp [List.getD_eq_getElem?_getD, List.getElem?_eq_getElem sl0]
  have lcN : ∀ (L : List Tm) (s0 s1 s2 s3 s4 s6 s7 s8 : Option (Sm × D)), L.length ≤ 1000 → evE (callN T k) (.lc [("_law_one", 9)] (.one 9) .seq (.var 5) .nix (.lit (.bl true)) (.bin .idx (.var 9) (.lit (.int 1)))) [s0, s1, s2, s3, s4, some (Sm.sh, .lst (L.map roD)), s6, s7, s8, none] = .ok (.fr, .lst (L.map fun t => .int (dep t))) [s0, s1, s2, s3, s4, some (Sm.sh, .lst (L.map roD)), s6, s7, s8, none] := fun L s0 s1 s2 s3 s4 s6 s7 s8 hL => by
    have r := e_lcM (C := callN T k) (nm := "_law_one") (i := 9) (e := .bin .idx (.var 9) (.lit (.int 1))) L roD (fun t => .int (dep t)) (i_seq (a := .var 5) (env := [s0, s1, s2, s3, s4, some (Sm.sh, .lst (L.map roD)), s6, s7, s8, none]) (.inl rfl) rfl) rfl (by simp) (fun x hx => ⟨.sh, .inl rfl, by simp [runF, ofE, argS, oneMu, low, evO, evI, getS, setS, rdy, ofO, finS, inp, muOf, muOk, refr, E.quiet, lows, bindTg, bind1, En.bindL, isMu, isOw, wipeE, src1, src2, ItK.two, R.bind_ok, R.toS_ok, e_var, e_own, e_fz, e_mv, e_mut, e_lit, e_gl, e_un, e_bin, e_sl, e_nix, e_chain, e_and, e_or, e_one, e_not, e_ite, e_tup, e_lst, e_dic0, e_dic1, e_call, e_get, e_pop, e_popAt, e_setdef, a_nil, a_cons, s_skip, s_seq, s_asg, s_asgT, s_asgP, s_aug, s_setI, s_app, s_clear, s_ex, s_ite, s_ret, s_retN, s_never, u_neg, u_lenL, u_lenT, u_lenS, u_listL, u_listT, u_tupL, u_tupT, u_sum, u_abs, u_all, u_isK, u_join, o_add, o_sub, o_mul, o_div, o_mod, o_pow, o_eqI, o_neI, o_lt, o_le, o_gt, o_ge, o_idx, o_max, o_min, opAdd, opSl, opIdx, opGe, kdOf, szOk, dv2, dv3, dv4, dv5, dv7, dv10, dv11, dv12, dv20, dv26, mu1, mu5, mu7, pw1, kd_str_tup, kd_str_lst, kd_str_dic, kd_str_int, kd_str_bl, kd_tup_str, kd_tup_lst, kd_tup_dic, kd_tup_int, kd_tup_bl, kd_lst_str, kd_lst_tup, kd_lst_dic, kd_lst_int, kd_lst_bl, kd_dic_str, kd_dic_tup, kd_dic_lst, kd_dic_int, kd_dic_bl, kd_int_str, kd_int_tup, kd_int_lst, kd_int_dic, kd_int_bl, kd_bl_str, kd_bl_tup, kd_bl_lst, kd_bl_dic, kd_bl_int, roD, L2.atI, L2.ixN]⟩) (by simp [sizeLine]; omega)
    exact r
  have lcT : ∀ (L : List Tm) (s0 s1 s2 s3 s4 s6 s7 s8 : Option (Sm × D)), L.length ≤ 1000 → evE (callN T k) (.lc [("_law_one", 9)] (.one 9) .seq (.var 5) .nix (.lit (.bl true)) (.bin .idx (.var 9) (.lit (.int 0)))) [s0, s1, s2, s3, s4, some (Sm.sh, .lst (L.map roD)), s6, s7, s8, none] = .ok (.fr, .lst (L.map toD)) [s0, s1, s2, s3, s4, some (Sm.sh, .lst (L.map roD)), s6, s7, s8, none] := fun L s0 s1 s2 s3 s4 s6 s7 s8 hL => by
    have r := e_lcM (C := callN T k) (nm := "_law_one") (i := 9) (e := .bin .idx (.var 9) (.lit (.int 0))) L roD toD (i_seq (a := .var 5) (env := [s0, s1, s2, s3, s4, some (Sm.sh, .lst (L.map roD)), s6, s7, s8, none]) (.inl rfl) rfl) rfl (by simp) (fun x hx => ⟨.sh, .inl rfl, by simp [runF, ofE, argS, oneMu, low, evO, evI, getS, setS, rdy, ofO, finS, inp, muOf, muOk, refr, E.quiet, lows, bindTg, bind1, En.bindL, isMu, isOw, wipeE, src1, src2, ItK.two, R.bind_ok, R.toS_ok, e_var, e_own, e_fz, e_mv, e_mut, e_lit, e_gl, e_un, e_bin, e_sl, e_nix, e_chain, e_and, e_or, e_one, e_not, e_ite, e_tup, e_lst, e_dic0, e_dic1, e_call, e_get, e_pop, e_popAt, e_setdef, a_nil, a_cons, s_skip, s_seq, s_asg, s_asgT, s_asgP, s_aug, s_setI, s_app, s_clear, s_ex, s_ite, s_ret, s_retN, s_never, u_neg, u_lenL, u_lenT, u_lenS, u_listL, u_listT, u_tupL, u_tupT, u_sum, u_abs, u_all, u_isK, u_join, o_add, o_sub, o_mul, o_div, o_mod, o_pow, o_eqI, o_neI, o_lt, o_le, o_gt, o_ge, o_idx, o_max, o_min, opAdd, opSl, opIdx, opGe, kdOf, szOk, dv2, dv3, dv4, dv5, dv7, dv10, dv11, dv12, dv20, dv26, mu1, mu5, mu7, pw1, kd_str_tup, kd_str_lst, kd_str_dic, kd_str_int, kd_str_bl, kd_tup_str, kd_tup_lst, kd_tup_dic, kd_tup_int, kd_tup_bl, kd_lst_str, kd_lst_tup, kd_lst_dic, kd_lst_int, kd_lst_bl, kd_dic_str, kd_dic_tup, kd_dic_lst, kd_dic_int, kd_dic_bl, kd_int_str, kd_int_tup, kd_int_lst, kd_int_dic, kd_int_bl, kd_bl_str, kd_bl_tup, kd_bl_lst, kd_bl_dic, kd_bl_int, roD, L2.atI, L2.ixN]⟩) (by simp [sizeLine]; omega)
    exact r
  unfold grown
  generalize hp : so.getD (num % so.length).toNat (⟨#[]⟩, 0) = p at *
  generalize hq : so.getD 0 (⟨#[]⟩, 0) = q at *
  obtain ⟨wd, mn⟩ := p
  obtain ⟨wq, mq⟩ := q
  obtain ⟨j, hj⟩ : ∃ j, j = HT.sIx row.length 0 (some ((row.length : Int) - mn)) := ⟨_, rfl⟩
  have cutj : cut (row.map roD) (some ((row.length : Int) - mn)) none = (row.drop j).map roD := by
    unfold cut
    rw [List.length_map, ← hj, List.map_drop]
    exact List.take_of_length_le (by simp [HT.sIx])
  have hjm : mn ≤ row.length → j = row.length - mn := fun hm => by
    rw [hj]; simp only [HT.sIx]; rw [if_neg (by omega)]; omega
  have cutt : mn ≤ row.length → cut (row.map roD) none (some ((row.length : Int) - mn)) = (row.take (row.length - mn)).map roD := fun hm => by
    unfold cut
    have : HT.sIx row.length row.length (some ((row.length : Int) - mn)) = row.length - mn := by
      simp only [HT.sIx]; rw [if_neg (by omega)]; omega
    rw [List.length_map, this]; simp [HT.sIx, List.map_take]
  obtain ⟨L, hL⟩ : ∃ L, L = row.drop j := ⟨_, rfl⟩
  rw [← hL] at cutj
  have i1 := ints_map (fun t => ((dep t : Nat) : Int)) L
  have m1 : op1 .max0 (.lst (L.map fun t => .int (dep t))) = some (.sh, .int (deps L)) := by
    show (ints? (L.map fun t => .int (dep t))).map (fun ns => ((Md.sh, D.int (match ns with | [] => 0 | m :: r => r.foldl max m)) : Val)) = _
    rw [i1]
    show some ((Md.sh, D.int _) : Val) = _
    rw [← max_deps L]
  have e1 := o_eqNil hbs
  have z1 : row.length + 1 ≤ sizeLine := by simp [sizeLine]; omega
  have z2 : 2 ≤ sizeLine := by decide
  have z3 : 1 ≤ sizeLine := by decide
  have l1 : L.length ≤ 1000 := by rw [hL]; simp; omega
  clear hp hq n0 n1 hso hj
  simp only [f__law_grown, b__law_grown]
  by_cases hG : 0 < mn ∧ mn ≤ row.length ∧ deps (row.drop (row.length - mn)) < most ∧ 0 < num / 20 % 4
  · obtain ⟨a1, a2, a3, a4⟩ := hG
    rw [if_pos ⟨a1, a2, a3, a4⟩]
    have ej := hjm a2
    rw [ej] at hL
    rw [← hL] at a3 ⊢
    have ct := cutt a2
    obtain ⟨P, hP⟩ : ∃ P, P = row.take (row.length - mn) := ⟨_, rfl⟩
    rw [← hP] at ct ⊢
    have l3 : P.length + 1 ≤ sizeLine := by rw [hP]; simp [sizeLine]; omega
    have l2 : 1 + L.length ≤ sizeLine := by simp [sizeLine]; omega
    have td : roD (.nd wd L) = .lst [.tup (.str wd :: L.map toD), .int ((deps L : Int) + 1)] := by
      rw [roD, toD, toDs_map, dep]; simp; omega
    clear hjm cutt hL hP ej
    simp [runF, ofE, argS, oneMu, low, evO, evI, getS, setS, rdy, ofO, finS, inp, muOf, muOk, refr, E.quiet, lows, bindTg, bind1, En.bindL, isMu, isOw, wipeE, src1, src2, ItK.two, R.bind_ok, R.toS_ok, e_var, e_own, e_fz, e_mv, e_mut, e_lit, e_gl, e_un, e_bin, e_sl, e_nix, e_chain, e_and, e_or, e_one, e_not, e_ite, e_tup, e_lst, e_dic0, e_dic1, e_call, e_get, e_pop, e_popAt, e_setdef, a_nil, a_cons, s_skip, s_seq, s_asg, s_asgT, s_asgP, s_aug, s_setI, s_app, s_clear, s_ex, s_ite, s_ret, s_retN, s_never, u_neg, u_lenL, u_lenT, u_lenS, u_listL, u_listT, u_tupL, u_tupT, u_sum, u_abs, u_all, u_isK, u_join, o_add, o_sub, o_mul, o_div, o_mod, o_pow, o_eqI, o_neI, o_lt, o_le, o_gt, o_ge, o_idx, o_max, o_min, opAdd, opSl, opIdx, opGe, kdOf, szOk, dv2, dv3, dv4, dv5, dv7, dv10, dv11, dv12, dv20, dv26, mu1, mu5, mu7, pw1, kd_str_tup, kd_str_lst, kd_str_dic, kd_str_int, kd_str_bl, kd_tup_str, kd_tup_lst, kd_tup_dic, kd_tup_int, kd_tup_bl, kd_lst_str, kd_lst_tup, kd_lst_dic, kd_lst_int, kd_lst_bl, kd_dic_str, kd_dic_tup, kd_dic_lst, kd_dic_int, kd_dic_bl, kd_int_str, kd_int_tup, kd_int_lst, kd_int_dic, kd_int_bl, kd_bl_str, kd_bl_tup, kd_bl_lst, kd_bl_dic, kd_bl_int, g1, soD, sl0, cutj, lcN, l1, m1, a1, a2, a3, a4, ct, lcT, z2, z3, l2, l3, td]
  · rw [if_neg hG]
    have gd : (decide ((0 : Int) < mn) && (decide ((mn : Int) ≤ row.length) && (decide ((deps L : Int) < most) && decide (0 < num / 20 % 4)))) = false := by
      by_cases a2 : mn ≤ row.length
      · rw [hjm a2] at hL
        rw [← hL] at hG
        simp only [Bool.and_eq_false_iff, decide_eq_false_iff_not]
        omega
      · simp only [Bool.and_eq_false_iff, decide_eq_false_iff_not]
        omega
    have t1 : roD (.nd wq []) = .lst [.tup [.str wq], .int 1] := by rw [roD, toD, dep]; rfl
    have fin : ∀ (m6 : Int), evS (callN T k) (.seq (.ite (.or (.bin .eq (.var 3) (.lst .nil)) (.one (.bin .eq (.bin .mod (.bin .fdiv (.var 1) (.lit (.int 4))) (.lit (.int 3))) (.lit (.int 0)))))
    (.seq (.ret (.bin .add (.var 0) (.lst (.cons (.lst (.cons (.tup (.cons (.bin .idx (.bin .idx (.var 2) (.lit (.int 0))) (.lit (.int 0))) .nil)) (.cons (.lit (.int 1)) .nil))) .nil))))
    .skip)
    .skip)
    (.seq (.ret (.bin .add (.var 0) (.lst (.cons (.lst (.cons (.bin .idx (.var 3) (.bin .mod (.bin .fdiv (.var 1) (.lit (.int 12))) (.un .len (.var 3)))) (.cons (.lit (.int 1)) .nil))) .nil))))
    .skip)) [some (Sm.sh, .lst (row.map roD)), some (Sm.sh, .int (num / 20)), some (Sm.sh, .lst (so.map soD)), some (Sm.sh, .lst (bs.map D.str)), some (Sm.sh, .int most), some (Sm.sh, .lst (L.map roD)), some (Sm.sh, .int m6), some (Sm.sh, .str wd), some (Sm.sh, .int mn), none]
      = .rt (.fr, .lst ((if bs = [] ∨ num / 20 / 4 % 3 = 0 then row ++ [Tm.nd wq []] else row ++ [Tm.bl (bs.getD (num / 20 / 12 % bs.length).toNat ⟨#[]⟩)]).map roD)) [some (Sm.sh, .lst (row.map roD)), some (Sm.sh, .int (num / 20)), some (Sm.sh, .lst (so.map soD)), some (Sm.sh, .lst (bs.map D.str)), some (Sm.sh, .int most), some (Sm.sh, .lst (L.map roD)), some (Sm.sh, .int m6), some (Sm.sh, .str wd), some (Sm.sh, .int mn), none] := by
      intro m6
      have s0 : L2.atI [D.str wq, .int (mq : Int)] 0 = some (.str wq) := rfl
      by_cases hb : bs = []
      · rw [if_pos (.inl hb)]
        rw [decide_eq_true hb] at e1
        clear hb
        simp [runF, ofE, argS, oneMu, low, evO, evI, getS, setS, rdy, ofO, finS, inp, muOf, muOk, refr, E.quiet, lows, bindTg, bind1, En.bindL, isMu, isOw, wipeE, src1, src2, ItK.two, R.bind_ok, R.toS_ok, e_var, e_own, e_fz, e_mv, e_mut, e_lit, e_gl, e_un, e_bin, e_sl, e_nix, e_chain, e_and, e_or, e_one, e_not, e_ite, e_tup, e_lst, e_dic0, e_dic1, e_call, e_get, e_pop, e_popAt, e_setdef, a_nil, a_cons, s_skip, s_seq, s_asg, s_asgT, s_asgP, s_aug, s_setI, s_app, s_clear, s_ex, s_ite, s_ret, s_retN, s_never, u_neg, u_lenL, u_lenT, u_lenS, u_listL, u_listT, u_tupL, u_tupT, u_sum, u_abs, u_all, u_isK, u_join, o_add, o_sub, o_mul, o_div, o_mod, o_pow, o_eqI, o_neI, o_lt, o_le, o_gt, o_ge, o_idx, o_max, o_min, opAdd, opSl, opIdx, opGe, kdOf, szOk, dv2, dv3, dv4, dv5, dv7, dv10, dv11, dv12, dv20, dv26, mu1, mu5, mu7, pw1, kd_str_tup, kd_str_lst, kd_str_dic, kd_str_int, kd_str_bl, kd_tup_str, kd_tup_lst, kd_tup_dic, kd_tup_int, kd_tup_bl, kd_lst_str, kd_lst_tup, kd_lst_dic, kd_lst_int, kd_lst_bl, kd_dic_str, kd_dic_tup, kd_dic_lst, kd_dic_int, kd_dic_bl, kd_int_str, kd_int_tup, kd_int_lst, kd_int_dic, kd_int_bl, kd_bl_str, kd_bl_tup, kd_bl_lst, kd_bl_dic, kd_bl_int, e1, g0, soD, s0, z1, z2, z3, t1]
      · rw [decide_eq_false hb] at e1
        have b0 : 0 < bs.length := List.length_pos_iff.mpr hb
        have v0 := Int.emod_nonneg (num / 20 / 12) (b := (bs.length : Int)) (by omega)
        have v1 := Int.emod_lt_of_pos (num / 20 / 12) (b := (bs.length : Int)) (by omega)
        have g3 : L2.atI (bs.map D.str) (num / 20 / 12 % (bs.length : Int)) = some (.str (bs.getD (num / 20 / 12 % bs.length).toNat ⟨#[]⟩)) := by
          rw [atI_get (d := .non) v0 (by simp; omega)]
          rw [List.getD_eq_getElem?_getD, List.getD_eq_getElem?_getD, List.getElem?_map, List.getElem?_eq_getElem (show (num / 20 / 12 % bs.length).toNat < bs.length by omega)]; rfl
        generalize bs.getD (num / 20 / 12 % bs.length).toNat ⟨#[]⟩ = bb at *
        have t2 : roD (.bl bb) = .lst [.str bb, .int 1] := by rw [roD, toD, dep]; rfl
        have bp : (0 : Int) < bs.length := by omega
        by_cases h3 : num / 20 / 4 % 3 = 0
        · rw [if_pos (.inr h3)]
          clear hb
          simp [runF, ofE, argS, oneMu, low, evO, evI, getS, setS, rdy, ofO, finS, inp, muOf, muOk, refr, E.quiet, lows, bindTg, bind1, En.bindL, isMu, isOw, wipeE, src1, src2, ItK.two, R.bind_ok, R.toS_ok, e_var, e_own, e_fz, e_mv, e_mut, e_lit, e_gl, e_un, e_bin, e_sl, e_nix, e_chain, e_and, e_or, e_one, e_not, e_ite, e_tup, e_lst, e_dic0, e_dic1, e_call, e_get, e_pop, e_popAt, e_setdef, a_nil, a_cons, s_skip, s_seq, s_asg, s_asgT, s_asgP, s_aug, s_setI, s_app, s_clear, s_ex, s_ite, s_ret, s_retN, s_never, u_neg, u_lenL, u_lenT, u_lenS, u_listL, u_listT, u_tupL, u_tupT, u_sum, u_abs, u_all, u_isK, u_join, o_add, o_sub, o_mul, o_div, o_mod, o_pow, o_eqI, o_neI, o_lt, o_le, o_gt, o_ge, o_idx, o_max, o_min, opAdd, opSl, opIdx, opGe, kdOf, szOk, dv2, dv3, dv4, dv5, dv7, dv10, dv11, dv12, dv20, dv26, mu1, mu5, mu7, pw1, kd_str_tup, kd_str_lst, kd_str_dic, kd_str_int, kd_str_bl, kd_tup_str, kd_tup_lst, kd_tup_dic, kd_tup_int, kd_tup_bl, kd_lst_str, kd_lst_tup, kd_lst_dic, kd_lst_int, kd_lst_bl, kd_dic_str, kd_dic_tup, kd_dic_lst, kd_dic_int, kd_dic_bl, kd_int_str, kd_int_tup, kd_int_lst, kd_int_dic, kd_int_bl, kd_bl_str, kd_bl_tup, kd_bl_lst, kd_bl_dic, kd_bl_int, e1, g0, soD, s0, z1, z2, z3, t1, h3]
        · rw [if_neg (by intro z; rcases z with z | z; exact hb z; exact h3 z)]
          clear hb
          simp [runF, ofE, argS, oneMu, low, evO, evI, getS, setS, rdy, ofO, finS, inp, muOf, muOk, refr, E.quiet, lows, bindTg, bind1, En.bindL, isMu, isOw, wipeE, src1, src2, ItK.two, R.bind_ok, R.toS_ok, e_var, e_own, e_fz, e_mv, e_mut, e_lit, e_gl, e_un, e_bin, e_sl, e_nix, e_chain, e_and, e_or, e_one, e_not, e_ite, e_tup, e_lst, e_dic0, e_dic1, e_call, e_get, e_pop, e_popAt, e_setdef, a_nil, a_cons, s_skip, s_seq, s_asg, s_asgT, s_asgP, s_aug, s_setI, s_app, s_clear, s_ex, s_ite, s_ret, s_retN, s_never, u_neg, u_lenL, u_lenT, u_lenS, u_listL, u_listT, u_tupL, u_tupT, u_sum, u_abs, u_all, u_isK, u_join, o_add, o_sub, o_mul, o_div, o_mod, o_pow, o_eqI, o_neI, o_lt, o_le, o_gt, o_ge, o_idx, o_max, o_min, opAdd, opSl, opIdx, opGe, kdOf, szOk, dv2, dv3, dv4, dv5, dv7, dv10, dv11, dv12, dv20, dv26, mu1, mu5, mu7, pw1, kd_str_tup, kd_str_lst, kd_str_dic, kd_str_int, kd_str_bl, kd_tup_str, kd_tup_lst, kd_tup_dic, kd_tup_int, kd_tup_bl, kd_lst_str, kd_lst_tup, kd_lst_dic, kd_lst_int, kd_lst_bl, kd_dic_str, kd_dic_tup, kd_dic_lst, kd_dic_int, kd_dic_bl, kd_int_str, kd_int_tup, kd_int_lst, kd_int_dic, kd_int_bl, kd_bl_str, kd_bl_tup, kd_bl_lst, kd_bl_dic, kd_bl_int, e1, g3, s0, z1, z2, z3, t2, h3, b0]
    clear hjm cutt hL hG
    revert fin
    generalize ((.seq (.ite (.or (.bin .eq (.var 3) (.lst .nil)) (.one (.bin .eq (.bin .mod (.bin .fdiv (.var 1) (.lit (.int 4))) (.lit (.int 3))) (.lit (.int 0)))))
    (.seq (.ret (.bin .add (.var 0) (.lst (.cons (.lst (.cons (.tup (.cons (.bin .idx (.bin .idx (.var 2) (.lit (.int 0))) (.lit (.int 0))) .nil)) (.cons (.lit (.int 1)) .nil))) .nil))))
    .skip)
    .skip)
    (.seq (.ret (.bin .add (.var 0) (.lst (.cons (.lst (.cons (.bin .idx (.var 3) (.bin .mod (.bin .fdiv (.var 1) (.lit (.int 12))) (.un .len (.var 3)))) (.cons (.lit (.int 1)) .nil))) .nil))))
    .skip)) : S) = tl
    intro fin
    simp only [Bool.and_eq_false_iff, decide_eq_false_iff_not] at gd
    by_cases c1 : 0 < mn
    · by_cases c2 : mn ≤ row.length
      · by_cases c3 : deps L < most
        · have c4 : ¬ 0 < num / 20 % 4 := by omega
          simp [runF, ofE, argS, oneMu, low, evO, evI, getS, setS, rdy, ofO, finS, inp, muOf, muOk, refr, E.quiet, lows, bindTg, bind1, En.bindL, isMu, isOw, wipeE, src1, src2, ItK.two, R.bind_ok, R.toS_ok, e_var, e_own, e_fz, e_mv, e_mut, e_lit, e_gl, e_un, e_bin, e_sl, e_nix, e_chain, e_and, e_or, e_one, e_not, e_ite, e_tup, e_lst, e_dic0, e_dic1, e_call, e_get, e_pop, e_popAt, e_setdef, a_nil, a_cons, s_skip, s_seq, s_asg, s_asgT, s_asgP, s_aug, s_setI, s_app, s_clear, s_ex, s_ite, s_ret, s_retN, s_never, u_neg, u_lenL, u_lenT, u_lenS, u_listL, u_listT, u_tupL, u_tupT, u_sum, u_abs, u_all, u_isK, u_join, o_add, o_sub, o_mul, o_div, o_mod, o_pow, o_eqI, o_neI, o_lt, o_le, o_gt, o_ge, o_idx, o_max, o_min, opAdd, opSl, opIdx, opGe, kdOf, szOk, dv2, dv3, dv4, dv5, dv7, dv10, dv11, dv12, dv20, dv26, mu1, mu5, mu7, pw1, kd_str_tup, kd_str_lst, kd_str_dic, kd_str_int, kd_str_bl, kd_tup_str, kd_tup_lst, kd_tup_dic, kd_tup_int, kd_tup_bl, kd_lst_str, kd_lst_tup, kd_lst_dic, kd_lst_int, kd_lst_bl, kd_dic_str, kd_dic_tup, kd_dic_lst, kd_dic_int, kd_dic_bl, kd_int_str, kd_int_tup, kd_int_lst, kd_int_dic, kd_int_bl, kd_bl_str, kd_bl_tup, kd_bl_lst, kd_bl_dic, kd_bl_int, g1, soD, sl0, cutj, lcN, l1, m1, c1, c2, c3, c4, fin]
        · simp [runF, ofE, argS, oneMu, low, evO, evI, getS, setS, rdy, ofO, finS, inp, muOf, muOk, refr, E.quiet, lows, bindTg, bind1, En.bindL, isMu, isOw, wipeE, src1, src2, ItK.two, R.bind_ok, R.toS_ok, e_var, e_own, e_fz, e_mv, e_mut, e_lit, e_gl, e_un, e_bin, e_sl, e_nix, e_chain, e_and, e_or, e_one, e_not, e_ite, e_tup, e_lst, e_dic0, e_dic1, e_call, e_get, e_pop, e_popAt, e_setdef, a_nil, a_cons, s_skip, s_seq, s_asg, s_asgT, s_asgP, s_aug, s_setI, s_app, s_clear, s_ex, s_ite, s_ret, s_retN, s_never, u_neg, u_lenL, u_lenT, u_lenS, u_listL, u_listT, u_tupL, u_tupT, u_sum, u_abs, u_all, u_isK, u_join, o_add, o_sub, o_mul, o_div, o_mod, o_pow, o_eqI, o_neI, o_lt, o_le, o_gt, o_ge, o_idx, o_max, o_min, opAdd, opSl, opIdx, opGe, kdOf, szOk, dv2, dv3, dv4, dv5, dv7, dv10, dv11, dv12, dv20, dv26, mu1, mu5, mu7, pw1, kd_str_tup, kd_str_lst, kd_str_dic, kd_str_int, kd_str_bl, kd_tup_str, kd_tup_lst, kd_tup_dic, kd_tup_int, kd_tup_bl, kd_lst_str, kd_lst_tup, kd_lst_dic, kd_lst_int, kd_lst_bl, kd_dic_str, kd_dic_tup, kd_dic_lst, kd_dic_int, kd_dic_bl, kd_int_str, kd_int_tup, kd_int_lst, kd_int_dic, kd_int_bl, kd_bl_str, kd_bl_tup, kd_bl_lst, kd_bl_dic, kd_bl_int, g1, soD, sl0, cutj, lcN, l1, m1, c1, c2, c3, fin]
      · simp [runF, ofE, argS, oneMu, low, evO, evI, getS, setS, rdy, ofO, finS, inp, muOf, muOk, refr, E.quiet, lows, bindTg, bind1, En.bindL, isMu, isOw, wipeE, src1, src2, ItK.two, R.bind_ok, R.toS_ok, e_var, e_own, e_fz, e_mv, e_mut, e_lit, e_gl, e_un, e_bin, e_sl, e_nix, e_chain, e_and, e_or, e_one, e_not, e_ite, e_tup, e_lst, e_dic0, e_dic1, e_call, e_get, e_pop, e_popAt, e_setdef, a_nil, a_cons, s_skip, s_seq, s_asg, s_asgT, s_asgP, s_aug, s_setI, s_app, s_clear, s_ex, s_ite, s_ret, s_retN, s_never, u_neg, u_lenL, u_lenT, u_lenS, u_listL, u_listT, u_tupL, u_tupT, u_sum, u_abs, u_all, u_isK, u_join, o_add, o_sub, o_mul, o_div, o_mod, o_pow, o_eqI, o_neI, o_lt, o_le, o_gt, o_ge, o_idx, o_max, o_min, opAdd, opSl, opIdx, opGe, kdOf, szOk, dv2, dv3, dv4, dv5, dv7, dv10, dv11, dv12, dv20, dv26, mu1, mu5, mu7, pw1, kd_str_tup, kd_str_lst, kd_str_dic, kd_str_int, kd_str_bl, kd_tup_str, kd_tup_lst, kd_tup_dic, kd_tup_int, kd_tup_bl, kd_lst_str, kd_lst_tup, kd_lst_dic, kd_lst_int, kd_lst_bl, kd_dic_str, kd_dic_tup, kd_dic_lst, kd_dic_int, kd_dic_bl, kd_int_str, kd_int_tup, kd_int_lst, kd_int_dic, kd_int_bl, kd_bl_str, kd_bl_tup, kd_bl_lst, kd_bl_dic, kd_bl_int, g1, soD, sl0, cutj, lcN, l1, m1, c1, c2, fin]
    · simp [runF, ofE, argS, oneMu, low, evO, evI, getS, setS, rdy, ofO, finS, inp, muOf, muOk, refr, E.quiet, lows, bindTg, bind1, En.bindL, isMu, isOw, wipeE, src1, src2, ItK.two, R.bind_ok, R.toS_ok, e_var, e_own, e_fz, e_mv, e_mut, e_lit, e_gl, e_un, e_bin, e_sl, e_nix, e_chain, e_and, e_or, e_one, e_not, e_ite, e_tup, e_lst, e_dic0, e_dic1, e_call, e_get, e_pop, e_popAt, e_setdef, a_nil, a_cons, s_skip, s_seq, s_asg, s_asgT, s_asgP, s_aug, s_setI, s_app, s_clear, s_ex, s_ite, s_ret, s_retN, s_never, u_neg, u_lenL, u_lenT, u_lenS, u_listL, u_listT, u_tupL, u_tupT, u_sum, u_abs, u_all, u_isK, u_join, o_add, o_sub, o_mul, o_div, o_mod, o_pow, o_eqI, o_neI, o_lt, o_le, o_gt, o_ge, o_idx, o_max, o_min, opAdd, opSl, opIdx, opGe, kdOf, szOk, dv2, dv3, dv4, dv5, dv7, dv10, dv11, dv12, dv20, dv26, mu1, mu5, mu7, pw1, kd_str_tup, kd_str_lst, kd_str_dic, kd_str_int, kd_str_bl, kd_tup_str, kd_tup_lst, kd_tup_dic, kd_tup_int, kd_tup_bl, kd_lst_str, kd_lst_tup, kd_lst_dic, kd_lst_int, kd_lst_bl, kd_dic_str, kd_dic_tup, kd_dic_lst, kd_dic_int, kd_dic_bl, kd_int_str, kd_int_tup, kd_int_lst, kd_int_dic, kd_int_bl, kd_bl_str, kd_bl_tup, kd_bl_lst, kd_bl_dic, kd_bl_int, g1, soD, sl0, cutj, lcN, l1, m1, c1, fin]
end
end Pu
end

section
set_option Elab.async false
set_option linter.all false
set_option maxRecDepth 100000
set_option maxHeartbeats 1000000
namespace Pu
open En PySem Sh
/-! ### places: what they lead to, their order -/
theorem placess_inv : ∀ {ts : List Tm} {k : Nat} {q : List Nat}, q ∈ placess k ts → ∃ n p u, q = (k + n) :: p ∧ ts[n]? = some u ∧ p ∈ places u
  | [], k, q, h => by rw [placess] at h; cases h
  | t :: ts, k, q, h => by
    rw [placess] at h
    rcases List.mem_append.mp h with h | h
    · obtain ⟨p, hp, rfl⟩ := List.mem_map.mp h
      exact ⟨0, p, t, rfl, rfl, hp⟩
    · obtain ⟨n, p, u, rfl, hu, hp⟩ := placess_inv h
      exact ⟨n + 1, p, u, by rw [show k + 1 + n = k + (n + 1) by omega], by simpa using hu, hp⟩
theorem places_inv {t : Tm} {q : List Nat} (h : q ∈ places t) : q = [] ∨ ∃ n p u, q = n :: p ∧ (kids t)[n]? = some u ∧ p ∈ places u := by
  cases t with
  | bl s => rw [places] at h; exact .inl (List.mem_singleton.mp h)
  | nd s ps =>
    rw [places] at h
    rcases List.mem_cons.mp h with h | h
    · exact .inl h
    · obtain ⟨n, p, u, rfl, hu, hp⟩ := placess_inv h
      exact .inr ⟨0 + n, p, u, rfl, by simpa [kids] using hu, hp⟩
theorem place_len : ∀ (n : Nat) (t : Tm) (q : List Nat), dep t ≤ n → q ∈ places t → q.length ≤ n := by
  intro n
  induction n with
  | zero => intro t q h; cases t <;> rw [dep] at h <;> omega
  | succ n ih =>
    intro t q h hq
    rcases places_inv hq with rfl | ⟨m, p, u, rfl, hu, hp⟩
    · simp
    · have := dep_kid (List.mem_of_getElem? hu)
      have := ih u p (by omega) hp
      simp; omega
def pI (p : List Nat) : List Int := p.map fun n : Nat => (n : Int)
def plLt (p q : List Nat) : Prop := lexGe (pI p) (pI q) = false
mutual
theorem places_lt : ∀ t, (places t).Pairwise plLt
  | .bl s => by rw [places]; simp
  | .nd s ps => by
    rw [places]
    refine List.pairwise_cons.mpr ⟨fun q hq => ?_, placess_lt 0 ps⟩
    obtain ⟨n, p, u, rfl, _, _⟩ := placess_inv hq
    rfl
theorem placess_lt : ∀ k ts, (placess k ts).Pairwise plLt
  | k, [] => by rw [placess]; simp
  | k, t :: ts => by
    rw [placess]
    refine List.pairwise_append.mpr ⟨?_, placess_lt (k + 1) ts, fun a ha b hb => ?_⟩
    · refine List.pairwise_map.mpr ((places_lt t).imp fun {a b} h => ?_)
      show lexGe ((k : Int) :: pI a) ((k : Int) :: pI b) = false
      unfold lexGe
      rw [if_pos rfl]; exact h
    · obtain ⟨p, _, rfl⟩ := List.mem_map.mp ha
      obtain ⟨n, p', u, rfl, _, _⟩ := placess_inv hb
      show lexGe ((k : Int) :: pI p) (((k + 1 + n : Nat) : Int) :: pI p') = false
      unfold lexGe
      rw [if_neg (by omega)]
      simp; omega
end
section
variable {T : Tab}
theorem c_count (hc : At T f__law_count) : ∀ (k : Nat) (t : Tm), dep t ≤ k → parts t ≤ 1000 → callN T (k + 1) "_law_count" [(.sh, toD t)] = .ok (.sh, .int (parts t)) none := by
  intro k
  induction k with
  | zero => intro t hd; cases t <;> rw [dep] at hd <;> omega
  | succ k ih =>
    intro t hd ht
    rw [show ("_law_count" : Str) = f__law_count.name from rfl, callN_at hc]
    cases t with
    | bl s => simp [runF, ofE, argS, oneMu, low, evO, evI, getS, setS, rdy, ofO, finS, inp, muOf, muOk, refr, E.quiet, lows, bindTg, bind1, En.bindL, isMu, isOw, wipeE, src1, src2, ItK.two, R.bind_ok, R.toS_ok, e_var, e_own, e_fz, e_mv, e_mut, e_lit, e_gl, e_un, e_bin, e_sl, e_nix, e_chain, e_and, e_or, e_one, e_not, e_ite, e_tup, e_lst, e_dic0, e_dic1, e_call, e_get, e_pop, e_popAt, e_setdef, a_nil, a_cons, s_skip, s_seq, s_asg, s_asgT, s_asgP, s_aug, s_setI, s_app, s_clear, s_ex, s_ite, s_ret, s_retN, s_never, u_neg, u_lenL, u_lenT, u_lenS, u_listL, u_listT, u_tupL, u_tupT, u_sum, u_abs, u_all, u_isK, u_join, o_add, o_sub, o_mul, o_div, o_mod, o_pow, o_eqI, o_neI, o_lt, o_le, o_gt, o_ge, o_idx, o_max, o_min, opAdd, opSl, opIdx, opGe, kdOf, szOk, dv2, dv3, dv4, dv5, dv7, dv10, dv11, dv12, dv20, dv26, mu1, mu5, mu7, pw1, kd_str_tup, kd_str_lst, kd_str_dic, kd_str_int, kd_str_bl, kd_tup_str, kd_tup_lst, kd_tup_dic, kd_tup_int, kd_tup_bl, kd_lst_str, kd_lst_tup, kd_lst_dic, kd_lst_int, kd_lst_bl, kd_dic_str, kd_dic_tup, kd_dic_lst, kd_dic_int, kd_dic_bl, kd_int_str, kd_int_tup, kd_int_lst, kd_int_dic, kd_int_bl, kd_bl_str, kd_bl_tup, kd_bl_lst, kd_bl_dic, kd_bl_int, f__law_count, b__law_count, toD, parts]
    | nd s ps =>
      have td : toD (.nd s ps) = .tup (.str s :: ps.map toD) := by rw [toD, toDs_map]
      have pl : ps.length ≤ 1000 := by have := len_partss ps; rw [parts] at ht; omega
      have hsl : evE (callN T (k + 1)) (.sl (.var 0) (.lit (.int 1)) .nix) [some (Sm.sh, toD (.nd s ps)), none] = .ok (.sh, .tup (ps.map toD)) [some (Sm.sh, toD (.nd s ps)), none] := by
        rw [td]
        simp [runF, ofE, argS, oneMu, low, evO, evI, getS, setS, rdy, ofO, finS, inp, muOf, muOk, refr, E.quiet, lows, bindTg, bind1, En.bindL, isMu, isOw, wipeE, src1, src2, ItK.two, R.bind_ok, R.toS_ok, e_var, e_own, e_fz, e_mv, e_mut, e_lit, e_gl, e_un, e_bin, e_sl, e_nix, e_chain, e_and, e_or, e_one, e_not, e_ite, e_tup, e_lst, e_dic0, e_dic1, e_call, e_get, e_pop, e_popAt, e_setdef, a_nil, a_cons, s_skip, s_seq, s_asg, s_asgT, s_asgP, s_aug, s_setI, s_app, s_clear, s_ex, s_ite, s_ret, s_retN, s_never, u_neg, u_lenL, u_lenT, u_lenS, u_listL, u_listT, u_tupL, u_tupT, u_sum, u_abs, u_all, u_isK, u_join, o_add, o_sub, o_mul, o_div, o_mod, o_pow, o_eqI, o_neI, o_lt, o_le, o_gt, o_ge, o_idx, o_max, o_min, opAdd, opSl, opIdx, opGe, kdOf, szOk, dv2, dv3, dv4, dv5, dv7, dv10, dv11, dv12, dv20, dv26, mu1, mu5, mu7, pw1, kd_str_tup, kd_str_lst, kd_str_dic, kd_str_int, kd_str_bl, kd_tup_str, kd_tup_lst, kd_tup_dic, kd_tup_int, kd_tup_bl, kd_lst_str, kd_lst_tup, kd_lst_dic, kd_lst_int, kd_lst_bl, kd_dic_str, kd_dic_tup, kd_dic_lst, kd_dic_int, kd_dic_bl, kd_int_str, kd_int_tup, kd_int_lst, kd_int_dic, kd_int_bl, kd_bl_str, kd_bl_tup, kd_bl_lst, kd_bl_dic, kd_bl_int, cut, HT.sIx, take_map_len]
      have lc := e_lcM (C := callN T (k + 1)) (nm := "_law_part") (i := 1) (e := .call "_law_count" (.cons (.var 1) .nil)) (env := [some (Sm.sh, toD (.nd s ps)), none]) ps toD (fun u => .int (parts u))
        (i_seqT hsl) (by simp [runF, ofE, argS, oneMu, low, evO, evI, getS, setS, rdy, ofO, finS, inp, muOf, muOk, refr, E.quiet, lows, bindTg, bind1, En.bindL, isMu, isOw, wipeE, src1, src2, ItK.two, R.bind_ok, R.toS_ok, e_var, e_own, e_fz, e_mv, e_mut, e_lit, e_gl, e_un, e_bin, e_sl, e_nix, e_chain, e_and, e_or, e_one, e_not, e_ite, e_tup, e_lst, e_dic0, e_dic1, e_call, e_get, e_pop, e_popAt, e_setdef, a_nil, a_cons, s_skip, s_seq, s_asg, s_asgT, s_asgP, s_aug, s_setI, s_app, s_clear, s_ex, s_ite, s_ret, s_retN, s_never]) (by simp) (fun x hx => ⟨.sh, .inl rfl, by
          have := ih x (by have := dep_kid (t := .nd s ps) hx; omega) (by have := parts_kid (t := .nd s ps) hx; omega)
          simp [runF, ofE, argS, oneMu, low, evO, evI, getS, setS, rdy, ofO, finS, inp, muOf, muOk, refr, E.quiet, lows, bindTg, bind1, En.bindL, isMu, isOw, wipeE, src1, src2, ItK.two, R.bind_ok, R.toS_ok, e_var, e_own, e_fz, e_mv, e_mut, e_lit, e_gl, e_un, e_bin, e_sl, e_nix, e_chain, e_and, e_or, e_one, e_not, e_ite, e_tup, e_lst, e_dic0, e_dic1, e_call, e_get, e_pop, e_popAt, e_setdef, a_nil, a_cons, s_skip, s_seq, s_asg, s_asgT, s_asgP, s_aug, s_setI, s_app, s_clear, s_ex, s_ite, s_ret, s_retN, s_never, this]⟩) (by simp [sizeLine]; omega)
      have pk := parts_kids (.nd s ps)
      rw [td] at lc ⊢
      simp [runF, ofE, argS, oneMu, low, evO, evI, getS, setS, rdy, ofO, finS, inp, muOf, muOk, refr, E.quiet, lows, bindTg, bind1, En.bindL, isMu, isOw, wipeE, src1, src2, ItK.two, R.bind_ok, R.toS_ok, e_var, e_own, e_fz, e_mv, e_mut, e_lit, e_gl, e_un, e_bin, e_sl, e_nix, e_chain, e_and, e_or, e_one, e_not, e_ite, e_tup, e_lst, e_dic0, e_dic1, e_call, e_get, e_pop, e_popAt, e_setdef, a_nil, a_cons, s_skip, s_seq, s_asg, s_asgT, s_asgP, s_aug, s_setI, s_app, s_clear, s_ex, s_ite, s_ret, s_retN, s_never, u_neg, u_lenL, u_lenT, u_lenS, u_listL, u_listT, u_tupL, u_tupT, u_sum, u_abs, u_all, u_isK, u_join, o_add, o_sub, o_mul, o_div, o_mod, o_pow, o_eqI, o_neI, o_lt, o_le, o_gt, o_ge, o_idx, o_max, o_min, opAdd, opSl, opIdx, opGe, kdOf, szOk, dv2, dv3, dv4, dv5, dv7, dv10, dv11, dv12, dv20, dv26, mu1, mu5, mu7, pw1, kd_str_tup, kd_str_lst, kd_str_dic, kd_str_int, kd_str_bl, kd_tup_str, kd_tup_lst, kd_tup_dic, kd_tup_int, kd_tup_bl, kd_lst_str, kd_lst_tup, kd_lst_dic, kd_lst_int, kd_lst_bl, kd_dic_str, kd_dic_tup, kd_dic_lst, kd_dic_int, kd_dic_bl, kd_int_str, kd_int_tup, kd_int_lst, kd_int_dic, kd_int_bl, kd_bl_str, kd_bl_tup, kd_bl_lst, kd_bl_dic, kd_bl_int, f__law_count, b__law_count, lc, ints_map]
      rw [pk, sum_cast]
      simp [kids]
theorem c_leads (hl : At T f__law_leads) (k : Nat) (t : Tm) (q : List Nat) (hq : q ∈ places t) : callN T (k + 1) "_law_leads" [(.sh, toD t), (.sh, plD q)] = .ok (.sh, .bl true) none := by
  rw [show ("_law_leads" : Str) = f__law_leads.name from rfl, callN_at hl]
  have loop : ∀ (p : List Nat) (t : Tm) (s2 : Option (Sm × D)), p ∈ places t → NM s2 → ∃ s0' s2', forL (.one 2) (evS (callN T k) (.seq (.ite (.or (.not (.un (.isK .int) (.var 2))) (.or (.un (.isK .bl) (.var 2)) (.one (.un (.isK .str) (.var 0)))))
    (.seq (.ret (.lit (.bl false)))
    .skip)
    .skip)
    (.seq (.ite (.or (.bin .lt (.var 2) (.lit (.int 0))) (.one (.bin .ge (.bin .add (.var 2) (.lit (.int 1))) (.un .len (.var 0)))))
    (.seq (.ret (.lit (.bl false)))
    .skip)
    .skip)
    (.seq (.asg 0 false (.bin .idx (.var 0) (.bin .add (.lit (.int 1)) (.var 2))))
    .skip)))) (p.map fun n : Nat => .int n) [some (Sm.sh, toD t), some (Sm.sh, plD q), s2] = .nx [s0', some (Sm.sh, plD q), s2'] := by
    intro p
    induction p with
    | nil => intro t s2 _ _; exact ⟨_, _, rfl⟩
    | cons n p ih =>
      intro t s2 hp h2
      rcases places_inv hp with e | ⟨n', p', u, e, hu, hp'⟩
      · cases e
      · cases e
        obtain ⟨s0', s2', ee⟩ := ih u (some (Sm.sh, .int n)) hp' (.inr ⟨_, rfl⟩)
        refine ⟨s0', s2', ?_⟩
        cases t with
        | bl s => cases hu
        | nd s ps =>
          have hu' : ps[n]? = some u := hu
          have hn : n < ps.length := (List.getElem?_eq_some_iff.mp hu').1
          have td : toD (.nd s ps) = .tup (.str s :: ps.map toD) := by rw [toD, toDs_map]
          have gi : L2.atI (D.str s :: ps.map toD) (1 + (n : Int)) = some (toD u) := by
            rw [atI_get (d := .non) (by omega) (by simp; omega)]
            rw [show (1 + (n : Int)).toNat = n + 1 by omega, List.getD_cons_succ, List.getD_eq_getElem?_getD, List.getElem?_map, hu']; rfl
          rw [td, List.map_cons, forL]
          have n0 : ¬ ((n : Int) < 0) := by omega
          have n1 : ¬ ((ps.length : Int) + 1 ≤ (n : Int) + 1) := by omega
          have hQ : (ps.map toD).length = ps.length := by simp
          generalize ps.map toD = Q at *
          generalize plD q = PQ at *
          rcases h2 with rfl | ⟨d2, rfl⟩ <;> simp [runF, ofE, argS, oneMu, low, evO, evI, getS, setS, rdy, ofO, finS, inp, muOf, muOk, refr, E.quiet, lows, bindTg, bind1, En.bindL, isMu, isOw, wipeE, src1, src2, ItK.two, R.bind_ok, R.toS_ok, e_var, e_own, e_fz, e_mv, e_mut, e_lit, e_gl, e_un, e_bin, e_sl, e_nix, e_chain, e_and, e_or, e_one, e_not, e_ite, e_tup, e_lst, e_dic0, e_dic1, e_call, e_get, e_pop, e_popAt, e_setdef, a_nil, a_cons, s_skip, s_seq, s_asg, s_asgT, s_asgP, s_aug, s_setI, s_app, s_clear, s_ex, s_ite, s_ret, s_retN, s_never, u_neg, u_lenL, u_lenT, u_lenS, u_listL, u_listT, u_tupL, u_tupT, u_sum, u_abs, u_all, u_isK, u_join, o_add, o_sub, o_mul, o_div, o_mod, o_pow, o_eqI, o_neI, o_lt, o_le, o_gt, o_ge, o_idx, o_max, o_min, opAdd, opSl, opIdx, opGe, kdOf, szOk, dv2, dv3, dv4, dv5, dv7, dv10, dv11, dv12, dv20, dv26, mu1, mu5, mu7, pw1, kd_str_tup, kd_str_lst, kd_str_dic, kd_str_int, kd_str_bl, kd_tup_str, kd_tup_lst, kd_tup_dic, kd_tup_int, kd_tup_bl, kd_lst_str, kd_lst_tup, kd_lst_dic, kd_lst_int, kd_lst_bl, kd_dic_str, kd_dic_tup, kd_dic_lst, kd_dic_int, kd_dic_bl, kd_int_str, kd_int_tup, kd_int_lst, kd_int_dic, kd_int_bl, kd_bl_str, kd_bl_tup, kd_bl_lst, kd_bl_dic, kd_bl_int, gi, n0, n1, ee, hQ]
  obtain ⟨s0', s2', e⟩ := loop q t none hq (.inl rfl)
  have hi : evI (evE (callN T k) (.var 1)) (evE (callN T k) .nix) .seq [some (Sm.sh, toD t), some (Sm.sh, plD q), none] = .ok (q.map fun n : Nat => .int n) [some (Sm.sh, toD t), some (Sm.sh, plD q), none] := i_seqT rfl
  have hf := (s_for hi).trans e
  simp only [plD] at hf
  simp [runF, ofE, argS, oneMu, low, evO, evI, getS, setS, rdy, ofO, finS, inp, muOf, muOk, refr, E.quiet, lows, bindTg, bind1, En.bindL, isMu, isOw, wipeE, src1, src2, ItK.two, R.bind_ok, R.toS_ok, e_var, e_own, e_fz, e_mv, e_mut, e_lit, e_gl, e_un, e_bin, e_sl, e_nix, e_chain, e_and, e_or, e_one, e_not, e_ite, e_tup, e_lst, e_dic0, e_dic1, e_call, e_get, e_pop, e_popAt, e_setdef, a_nil, a_cons, s_skip, s_seq, s_asg, s_asgT, s_asgP, s_aug, s_setI, s_app, s_clear, s_ex, s_ite, s_ret, s_retN, s_never, u_neg, u_lenL, u_lenT, u_lenS, u_listL, u_listT, u_tupL, u_tupT, u_sum, u_abs, u_all, u_isK, u_join, o_add, o_sub, o_mul, o_div, o_mod, o_pow, o_eqI, o_neI, o_lt, o_le, o_gt, o_ge, o_idx, o_max, o_min, opAdd, opSl, opIdx, opGe, kdOf, szOk, dv2, dv3, dv4, dv5, dv7, dv10, dv11, dv12, dv20, dv26, mu1, mu5, mu7, pw1, kd_str_tup, kd_str_lst, kd_str_dic, kd_str_int, kd_str_bl, kd_tup_str, kd_tup_lst, kd_tup_dic, kd_tup_int, kd_tup_bl, kd_lst_str, kd_lst_tup, kd_lst_dic, kd_lst_int, kd_lst_bl, kd_dic_str, kd_dic_tup, kd_dic_lst, kd_dic_int, kd_dic_bl, kd_int_str, kd_int_tup, kd_int_lst, kd_int_dic, kd_int_bl, kd_bl_str, kd_bl_tup, kd_bl_lst, kd_bl_dic, kd_bl_int, f__law_leads, b__law_leads, plD, hf]
structure H01 (T : Tab) : Prop where
  i : HI T
  po : At T f_parts_of
  pl : At T f_places_of
  ct : At T f__law_count
  ld : At T f__law_leads
  gd : At T f__law_good
theorem c_good (h : H01 T) (k : Nat) (t : Tm) (hd : dep t + 1 ≤ k) (hp : parts t ≤ 900) (hd2 : dep t ≤ 900) : callN T (k + 2) "_law_good" [(.sh, toD t)] = .ok (.sh, .bl true) none := by
  rw [show ("_law_good" : Str) = f__law_good.name from rfl, callN_at h.gd]
  have e1 := c_count h.ct k t (by omega) (by omega)
  have e2 := c_parts_of h.i h.po k t hd (by omega)
  have e3 := c_places_of h.i h.pl k t hd (by omega) (fun p hp => by have := place_len _ t p (Nat.le_refl _) hp; omega)
  have hl : ((places t).map plD).length = parts t := by rw [List.length_map, places_len]
  have lc : evE (callN T (k + 1)) (.lc [("_law_place", 5)] (.one 5) .seq (.var 3) .nix (.not (.call "_law_leads" (.cons (.var 0) (.cons (.var 5) .nil)))) (.var 5)) [some (Sm.sh, toD t), some (Sm.sh, .int (parts t)), some (Sm.sh, .int (parts t)), some (Sm.sh, .lst ((places t).map plD)), none, none] = .ok (.fr, .lst []) [some (Sm.sh, toD t), some (Sm.sh, .int (parts t)), some (Sm.sh, .int (parts t)), some (Sm.sh, .lst ((places t).map plD)), none, none] := by
    have r := e_lcF (C := callN T (k + 1)) (nm := "_law_place") (i := 5) (c := .not (.call "_law_leads" (.cons (.var 0) (.cons (.var 5) .nil)))) (e := .var 5) (places t) plD (fun _ => false) plD (i_seq (a := .var 3) (env := [some (Sm.sh, toD t), some (Sm.sh, .int (parts t)), some (Sm.sh, .int (parts t)), some (Sm.sh, .lst ((places t).map plD)), none, none]) (.inl rfl) rfl) rfl (by simp) (fun q hq => by
        have := c_leads h.ld k t q hq
        generalize plD q = PQ at *
        generalize (places t).map plD = PL at *
        simp [runF, ofE, argS, oneMu, low, evO, evI, getS, setS, rdy, ofO, finS, inp, muOf, muOk, refr, E.quiet, lows, bindTg, bind1, En.bindL, isMu, isOw, wipeE, src1, src2, ItK.two, R.bind_ok, R.toS_ok, e_var, e_own, e_fz, e_mv, e_mut, e_lit, e_gl, e_un, e_bin, e_sl, e_nix, e_chain, e_and, e_or, e_one, e_not, e_ite, e_tup, e_lst, e_dic0, e_dic1, e_call, e_get, e_pop, e_popAt, e_setdef, a_nil, a_cons, s_skip, s_seq, s_asg, s_asgT, s_asgP, s_aug, s_setI, s_app, s_clear, s_ex, s_ite, s_ret, s_retN, s_never, this]) (fun q hq z => by cases z) (by rw [places_len]; simp [sizeLine]; omega)
    rw [r]
    have : (places t).filter (fun _ => false) = [] := by simp
    rw [this]; rfl
  have loop : ∀ (m lo : Nat) (s4 : Option (Sm × D)), NM s4 → lo + m + 1 ≤ parts t → ∃ s4', forL (.one 4) (evS (callN T (k + 1)) (.seq (.ite (.bin .ge (.bin .idx (.var 3) (.var 4)) (.bin .idx (.var 3) (.bin .add (.var 4) (.lit (.int 1)))))
    (.seq (.ret (.lit (.bl false)))
    .skip)
    .skip)
    .skip)) (rangeD lo m) [some (Sm.sh, toD t), some (Sm.sh, .int (parts t)), some (Sm.sh, .int (parts t)), some (Sm.sh, .lst ((places t).map plD)), s4, none] = .nx [some (Sm.sh, toD t), some (Sm.sh, .int (parts t)), some (Sm.sh, .int (parts t)), some (Sm.sh, .lst ((places t).map plD)), s4', none] := by
    intro m
    induction m with
    | zero => intro lo s4 _ _; exact ⟨s4, rfl⟩
    | succ m ih =>
      intro lo s4 h4 hm
      obtain ⟨s4', e⟩ := ih (lo + 1) (some (Sm.sh, .int lo)) (.inr ⟨_, rfl⟩) (by omega)
      refine ⟨s4', ?_⟩
      rw [rangeD, forL]
      have p1 : lo < (places t).length := by rw [places_len]; omega
      have p2 : lo + 1 < (places t).length := by rw [places_len]; omega
      have g1 : L2.atI ((places t).map plD) (lo : Int) = some (plD (places t)[lo]) := by
        rw [atI_get (d := .non) (by omega) (by simp; omega)]
        simp [List.getD_eq_getElem?_getD, List.getElem?_eq_getElem p1]
      have g2 : L2.atI ((places t).map plD) ((lo : Int) + 1) = some (plD (places t)[lo + 1]) := by
        rw [atI_get (d := .non) (by omega) (by simp; omega)]
        rw [show ((lo : Int) + 1).toNat = lo + 1 by omega]
        simp [List.getD_eq_getElem?_getD, List.getElem?_eq_getElem p2]
      have lt : plLt (places t)[lo] (places t)[lo + 1] := List.pairwise_iff_getElem.mp (places_lt t) lo (lo + 1) p1 p2 (by omega)
      have gg : opGe (plD (places t)[lo]) (plD (places t)[lo + 1]) = some (.sh, .bl false) := by
        show ((ints? ((places t)[lo].map fun n : Nat => .int n)).bind fun is => (ints? ((places t)[lo + 1].map fun n : Nat => .int n)).map fun js => ((Md.sh, D.bl (lexGe is js)) : Val)) = _
        rw [ints_map, ints_map]
        show some ((Md.sh, D.bl (lexGe (pI (places t)[lo]) (pI (places t)[lo + 1]))) : Val) = _
        rw [show lexGe (pI (places t)[lo]) (pI (places t)[lo + 1]) = false from lt]
      generalize plD (places t)[lo] = A at *
      generalize plD (places t)[lo + 1] = B at *
      generalize (places t).map plD = PL at *
      have x1 : evE (callN T (k + 1)) (.bin .idx (.var 3) (.var 4)) [some (Sm.sh, toD t), some (Sm.sh, .int (parts t)), some (Sm.sh, .int (parts t)), some (Sm.sh, .lst PL), some (Sm.sh, .int lo), none] = .ok (.sh, A) [some (Sm.sh, toD t), some (Sm.sh, .int (parts t)), some (Sm.sh, .int (parts t)), some (Sm.sh, .lst PL), some (Sm.sh, .int lo), none] := by simp [runF, ofE, argS, oneMu, low, evO, evI, getS, setS, rdy, ofO, finS, inp, muOf, muOk, refr, E.quiet, lows, bindTg, bind1, En.bindL, isMu, isOw, wipeE, src1, src2, ItK.two, R.bind_ok, R.toS_ok, e_var, e_own, e_fz, e_mv, e_mut, e_lit, e_gl, e_un, e_bin, e_sl, e_nix, e_chain, e_and, e_or, e_one, e_not, e_ite, e_tup, e_lst, e_dic0, e_dic1, e_call, e_get, e_pop, e_popAt, e_setdef, a_nil, a_cons, s_skip, s_seq, s_asg, s_asgT, s_asgP, s_aug, s_setI, s_app, s_clear, s_ex, s_ite, s_ret, s_retN, s_never, u_neg, u_lenL, u_lenT, u_lenS, u_listL, u_listT, u_tupL, u_tupT, u_sum, u_abs, u_all, u_isK, u_join, o_add, o_sub, o_mul, o_div, o_mod, o_pow, o_eqI, o_neI, o_lt, o_le, o_gt, o_ge, o_idx, o_max, o_min, opAdd, opSl, opIdx, opGe, kdOf, szOk, dv2, dv3, dv4, dv5, dv7, dv10, dv11, dv12, dv20, dv26, mu1, mu5, mu7, pw1, kd_str_tup, kd_str_lst, kd_str_dic, kd_str_int, kd_str_bl, kd_tup_str, kd_tup_lst, kd_tup_dic, kd_tup_int, kd_tup_bl, kd_lst_str, kd_lst_tup, kd_lst_dic, kd_lst_int, kd_lst_bl, kd_dic_str, kd_dic_tup, kd_dic_lst, kd_dic_int, kd_dic_bl, kd_int_str, kd_int_tup, kd_int_lst, kd_int_dic, kd_int_bl, kd_bl_str, kd_bl_tup, kd_bl_lst, kd_bl_dic, kd_bl_int, g1]
      have x2 : evE (callN T (k + 1)) (.bin .idx (.var 3) (.bin .add (.var 4) (.lit (.int 1)))) [some (Sm.sh, toD t), some (Sm.sh, .int (parts t)), some (Sm.sh, .int (parts t)), some (Sm.sh, .lst PL), some (Sm.sh, .int lo), none] = .ok (.sh, B) [some (Sm.sh, toD t), some (Sm.sh, .int (parts t)), some (Sm.sh, .int (parts t)), some (Sm.sh, .lst PL), some (Sm.sh, .int lo), none] := by simp [runF, ofE, argS, oneMu, low, evO, evI, getS, setS, rdy, ofO, finS, inp, muOf, muOk, refr, E.quiet, lows, bindTg, bind1, En.bindL, isMu, isOw, wipeE, src1, src2, ItK.two, R.bind_ok, R.toS_ok, e_var, e_own, e_fz, e_mv, e_mut, e_lit, e_gl, e_un, e_bin, e_sl, e_nix, e_chain, e_and, e_or, e_one, e_not, e_ite, e_tup, e_lst, e_dic0, e_dic1, e_call, e_get, e_pop, e_popAt, e_setdef, a_nil, a_cons, s_skip, s_seq, s_asg, s_asgT, s_asgP, s_aug, s_setI, s_app, s_clear, s_ex, s_ite, s_ret, s_retN, s_never, u_neg, u_lenL, u_lenT, u_lenS, u_listL, u_listT, u_tupL, u_tupT, u_sum, u_abs, u_all, u_isK, u_join, o_add, o_sub, o_mul, o_div, o_mod, o_pow, o_eqI, o_neI, o_lt, o_le, o_gt, o_ge, o_idx, o_max, o_min, opAdd, opSl, opIdx, opGe, kdOf, szOk, dv2, dv3, dv4, dv5, dv7, dv10, dv11, dv12, dv20, dv26, mu1, mu5, mu7, pw1, kd_str_tup, kd_str_lst, kd_str_dic, kd_str_int, kd_str_bl, kd_tup_str, kd_tup_lst, kd_tup_dic, kd_tup_int, kd_tup_bl, kd_lst_str, kd_lst_tup, kd_lst_dic, kd_lst_int, kd_lst_bl, kd_dic_str, kd_dic_tup, kd_dic_lst, kd_dic_int, kd_dic_bl, kd_int_str, kd_int_tup, kd_int_lst, kd_int_dic, kd_int_bl, kd_bl_str, kd_bl_tup, kd_bl_lst, kd_bl_dic, kd_bl_int, g2]
      have hc : evE (callN T (k + 1)) (.bin .ge (.bin .idx (.var 3) (.var 4)) (.bin .idx (.var 3) (.bin .add (.var 4) (.lit (.int 1))))) [some (Sm.sh, toD t), some (Sm.sh, .int (parts t)), some (Sm.sh, .int (parts t)), some (Sm.sh, .lst PL), some (Sm.sh, .int lo), none] = .ok (.sh, .bl false) [some (Sm.sh, toD t), some (Sm.sh, .int (parts t)), some (Sm.sh, .int (parts t)), some (Sm.sh, .lst PL), some (Sm.sh, .int lo), none] := by
        rw [e_bin, x1]
        simp only [R.bind_ok, x2, inp, rdy, o_ge, gg, ofO, Bool.false_and, Bool.false_eq_true, if_false]
      generalize (E.bin .ge (.bin .idx (.var 3) (.var 4)) (.bin .idx (.var 3) (.bin .add (.var 4) (.lit (.int 1))))) = cc at *
      have ee : ((lo + 1 : Nat) : Int) = (lo : Int) + 1 := by omega
      rw [ee] at e
      rcases h4 with rfl | ⟨d4, rfl⟩ <;> simp [runF, ofE, argS, oneMu, low, evO, evI, getS, setS, rdy, ofO, finS, inp, muOf, muOk, refr, E.quiet, lows, bindTg, bind1, En.bindL, isMu, isOw, wipeE, src1, src2, ItK.two, R.bind_ok, R.toS_ok, e_var, e_own, e_fz, e_mv, e_mut, e_lit, e_gl, e_un, e_bin, e_sl, e_nix, e_chain, e_and, e_or, e_one, e_not, e_ite, e_tup, e_lst, e_dic0, e_dic1, e_call, e_get, e_pop, e_popAt, e_setdef, a_nil, a_cons, s_skip, s_seq, s_asg, s_asgT, s_asgP, s_aug, s_setI, s_app, s_clear, s_ex, s_ite, s_ret, s_retN, s_never, hc, e]
  obtain ⟨s4', e⟩ := loop (parts t - 1) 0 none (.inl rfl) (by have := parts_pos t; omega)
  have pp := parts_pos t
  have hi : evI (evE (callN T (k + 1)) (.bin .sub (.un .len (.var 3)) (.lit (.int 1)))) (evE (callN T (k + 1)) .nix) .rng [some (Sm.sh, toD t), some (Sm.sh, .int (parts t)), some (Sm.sh, .int (parts t)), some (Sm.sh, .lst ((places t).map plD)), none, none] = .ok (rangeD 0 (parts t - 1)) [some (Sm.sh, toD t), some (Sm.sh, .int (parts t)), some (Sm.sh, .int (parts t)), some (Sm.sh, .lst ((places t).map plD)), none, none] := by
    rw [i_rng (n := (parts t : Int) - 1) (env1 := [some (Sm.sh, toD t), some (Sm.sh, .int (parts t)), some (Sm.sh, .int (parts t)), some (Sm.sh, .lst ((places t).map plD)), none, none]) (by
      generalize (places t).map plD = PL at *
      simp [runF, ofE, argS, oneMu, low, evO, evI, getS, setS, rdy, ofO, finS, inp, muOf, muOk, refr, E.quiet, lows, bindTg, bind1, En.bindL, isMu, isOw, wipeE, src1, src2, ItK.two, R.bind_ok, R.toS_ok, e_var, e_own, e_fz, e_mv, e_mut, e_lit, e_gl, e_un, e_bin, e_sl, e_nix, e_chain, e_and, e_or, e_one, e_not, e_ite, e_tup, e_lst, e_dic0, e_dic1, e_call, e_get, e_pop, e_popAt, e_setdef, a_nil, a_cons, s_skip, s_seq, s_asg, s_asgT, s_asgP, s_aug, s_setI, s_app, s_clear, s_ex, s_ite, s_ret, s_retN, s_never, u_neg, u_lenL, u_lenT, u_lenS, u_listL, u_listT, u_tupL, u_tupT, u_sum, u_abs, u_all, u_isK, u_join, o_add, o_sub, o_mul, o_div, o_mod, o_pow, o_eqI, o_neI, o_lt, o_le, o_gt, o_ge, o_idx, o_max, o_min, opAdd, opSl, opIdx, opGe, kdOf, szOk, dv2, dv3, dv4, dv5, dv7, dv10, dv11, dv12, dv20, dv26, mu1, mu5, mu7, pw1, kd_str_tup, kd_str_lst, kd_str_dic, kd_str_int, kd_str_bl, kd_tup_str, kd_tup_lst, kd_tup_dic, kd_tup_int, kd_tup_bl, kd_lst_str, kd_lst_tup, kd_lst_dic, kd_lst_int, kd_lst_bl, kd_dic_str, kd_dic_tup, kd_dic_lst, kd_dic_int, kd_dic_bl, kd_int_str, kd_int_tup, kd_int_lst, kd_int_dic, kd_int_bl, kd_bl_str, kd_bl_tup, kd_bl_lst, kd_bl_dic, kd_bl_int, hl]) (by omega) (by omega)]
    rw [show ((parts t : Int) - 1).toNat = parts t - 1 by omega]
  have hf := (s_for hi).trans e
  generalize (places t).map plD = PL at *
  generalize toD t = tt at *
  simp only [f__law_good, b__law_good]
  generalize (E.lc [("_law_place", 5)] (.one 5) .seq (.var 3) .nix (.not (.call "_law_leads" (.cons (.var 0) (.cons (.var 5) .nil)))) (.var 5)) = lcx at *
  simp [runF, ofE, argS, oneMu, low, evO, evI, getS, setS, rdy, ofO, finS, inp, muOf, muOk, refr, E.quiet, lows, bindTg, bind1, En.bindL, isMu, isOw, wipeE, src1, src2, ItK.two, R.bind_ok, R.toS_ok, e_var, e_own, e_fz, e_mv, e_mut, e_lit, e_gl, e_un, e_bin, e_sl, e_nix, e_chain, e_and, e_or, e_one, e_not, e_ite, e_tup, e_lst, e_dic0, e_dic1, e_call, e_get, e_pop, e_popAt, e_setdef, a_nil, a_cons, s_skip, s_seq, s_asg, s_asgT, s_asgP, s_aug, s_setI, s_app, s_clear, s_ex, s_ite, s_ret, s_retN, s_never, u_neg, u_lenL, u_lenT, u_lenS, u_listL, u_listT, u_tupL, u_tupT, u_sum, u_abs, u_all, u_isK, u_join, o_add, o_sub, o_mul, o_div, o_mod, o_pow, o_eqI, o_neI, o_lt, o_le, o_gt, o_ge, o_idx, o_max, o_min, opAdd, opSl, opIdx, opGe, kdOf, szOk, dv2, dv3, dv4, dv5, dv7, dv10, dv11, dv12, dv20, dv26, mu1, mu5, mu7, pw1, kd_str_tup, kd_str_lst, kd_str_dic, kd_str_int, kd_str_bl, kd_tup_str, kd_tup_lst, kd_tup_dic, kd_tup_int, kd_tup_bl, kd_lst_str, kd_lst_tup, kd_lst_dic, kd_lst_int, kd_lst_bl, kd_dic_str, kd_dic_tup, kd_dic_lst, kd_dic_int, kd_dic_bl, kd_int_str, kd_int_tup, kd_int_lst, kd_int_dic, kd_int_bl, kd_bl_str, kd_bl_tup, kd_bl_lst, kd_bl_dic, kd_bl_int, e1, e2, e3, hl, lc, hf]
theorem partss_app : ∀ a b : List Tm, partss (a ++ b) = partss a + partss b
  | [], b => by simp [partss]
  | t :: a, b => by rw [List.cons_append, partss, partss, partss_app a b]; omega
theorem deps_app : ∀ a b : List Tm, deps (a ++ b) = max (deps a) (deps b)
  | [], b => by simp [deps]
  | t :: a, b => by rw [List.cons_append, deps, deps, deps_app a b]; omega
theorem grown_last (row : List Tm) (num : Int) (so : List (Str × Nat)) (bs : List Str) (most : Nat) : ∃ ini t, grown row num so bs most = ini ++ [t] := by
  unfold grown
  simp only
  split
  · exact ⟨_, _, rfl⟩
  · split
    · exact ⟨_, _, rfl⟩
    · exact ⟨_, _, rfl⟩
theorem grown_parts (row : List Tm) (num : Int) (so : List (Str × Nat)) (bs : List Str) (most : Nat) : partss (grown row num so bs most) = partss row + 1 := by
  unfold grown
  simp only
  generalize (so.getD (num % so.length).toNat (⟨#[]⟩, 0)) = p
  split
  · have := congrArg partss (List.take_append_drop (row.length - p.2) row)
    rw [partss_app] at this ⊢
    simp only [partss, parts]
    omega
  · split <;> (rw [partss_app]; simp [partss, parts])
theorem grown_deps (row : List Tm) (num : Int) (so : List (Str × Nat)) (bs : List Str) (most : Nat) (h : deps row ≤ most) (hm : 1 ≤ most) : deps (grown row num so bs most) ≤ most := by
  unfold grown
  simp only
  generalize (so.getD (num % so.length).toNat (⟨#[]⟩, 0)) = p
  split
  · rename_i hc
    have := congrArg deps (List.take_append_drop (row.length - p.2) row)
    rw [deps_app] at this ⊢
    simp only [deps, dep]
    omega
  · split <;> (rw [deps_app]; simp [deps, dep]; omega)
theorem sorts_len (c : Int) : 2 ≤ (sorts c).length ∧ (sorts c).length ≤ 5 := by
  simp [sorts, manyS]; omega
theorem blanks_ok (c : Int) : ∀ s ∈ blanksL c, PyData.strOk s = true := by
  intro s hs
  obtain ⟨k, _, rfl⟩ := List.mem_map.mp hs
  generalize (c % 26 + 7 * (k : Int)) % 26 = z
  have := (ABCAt_all z).2
  simp [PyData.strOk, strL]; omega
theorem blanks_len (c : Int) : 1 ≤ (blanksL c).length ∧ (blanksL c).length ≤ 4 := by
  simp [blanksL]; omega
theorem cut_map {α β : Type} (f : α → β) (xs : List α) (lo hi : Option Int) : cut (xs.map f) lo hi = (cut xs lo hi).map f := by
  unfold cut
  rw [List.length_map, List.map_take, List.map_drop]
structure HG (T : Tab) : Prop where
  cell : At T f__law_cell
  words : At T f__law_words
  sorts : At T f__law_sorts
  blanks : At T f__law_blanks
  grown : At T f__law_grown
theorem law01 (h : H01 T) (g : HG T) (ns : List Int) : runF (callN T 40) f_law [(.sh, .lst (ns.map D.int))] = .ok (.sh, .bl true) none := by
  have c0 : callN T 40 "_law_cell" [(.sh, .lst (ns.map D.int)), (.sh, .int 0)] = .ok (.sh, .int (ns.getD 0 0)) none := c_cell g.cell 39 ns 0
  have c1 : callN T 40 "_law_cell" [(.sh, .lst (ns.map D.int)), (.sh, .int 1)] = .ok (.sh, .int (ns.getD 1 0)) none := c_cell g.cell 39 ns 1
  have e0 : callN T 40 "_law_sorts" [(.sh, .int (ns.getD 0 0))] = .ok (.fr, .lst ((sorts (ns.getD 0 0)).map soD)) none := c_sorts g.words g.sorts 38 (ns.getD 0 0)
  have e1 : callN T 40 "_law_blanks" [(.sh, .int (ns.getD 1 0))] = .ok (.fr, .lst ((blanksL (ns.getD 1 0)).map D.str)) none := c_blanks g.blanks 39 (ns.getD 1 0)
  generalize ns.getD 0 0 = x0 at *
  generalize ns.getD 1 0 = x1 at *
  have sl := sorts_len x0
  have bl := blanks_len x1
  have bo := blanks_ok x1
  generalize sorts x0 = so at *
  generalize blanksL x1 = bs at *
  have loop : ∀ (xs : List Int) (row : List Tm) (s4 : Option (Sm × D)), NM s4 → deps row ≤ 15 → partss row + xs.length ≤ 100 → ∃ s3' s4', forL (.one 4) (evS (callN T 40) (.seq (.asg 3 false (.call "_law_grown" (.cons (.var 3) (.cons (.bin .mod (.bin .mul (.var 4) (.lit (.int 1000000007))) (.lit (.int 2147483647))) (.cons (.var 1) (.cons (.var 2) (.cons (.lit (.int 15)) .nil)))))))
    (.seq (.ite (.not (.call "_law_good" (.cons (.bin .idx (.bin .idx (.var 3) (.un .neg (.lit (.int 1)))) (.lit (.int 0))) .nil)))
    (.seq (.ret (.lit (.bl false)))
    .skip)
    .skip)
    .skip))) (xs.map D.int) [some (Sm.sh, .lst (ns.map D.int)), some (Sm.sh, .lst (so.map soD)), some (Sm.sh, .lst (bs.map D.str)), some (Sm.sh, .lst (row.map roD)), s4] = .nx [some (Sm.sh, .lst (ns.map D.int)), some (Sm.sh, .lst (so.map soD)), some (Sm.sh, .lst (bs.map D.str)), s3', s4'] := by
    intro xs
    induction xs with
    | nil => intro row s4 _ _ _; exact ⟨_, _, rfl⟩
    | cons x xs ih =>
      intro row s4 h4 hd hp
      have gr : callN T 40 "_law_grown" [(.sh, .lst (row.map roD)), (.sh, .int (x * 1000000007 % 2147483647)), (.sh, .lst (so.map soD)), (.sh, .lst (bs.map D.str)), (.sh, .int 15)] = .ok (.fr, .lst ((grown row (x * 1000000007 % 2147483647) so bs 15).map roD)) none := c_grown g.grown 39 row (x * 1000000007 % 2147483647) so bs 15 (by intro z; rw [z] at sl; simp at sl) (by omega) bo (by omega) (by have := len_partss row; simp at hp; omega)
      have gp := grown_parts row (x * 1000000007 % 2147483647) so bs 15
      have gd := grown_deps row (x * 1000000007 % 2147483647) so bs 15 hd (by omega)
      obtain ⟨ini, t, gl⟩ := grown_last row (x * 1000000007 % 2147483647) so bs 15
      generalize grown row (x * 1000000007 % 2147483647) so bs 15 = row2 at *
      obtain ⟨s3', s4', e⟩ := ih row2 (some (Sm.sh, .int x)) (.inr ⟨_, rfl⟩) gd (by simp at hp; omega)
      refine ⟨s3', s4', ?_⟩
      have at1 : L2.atI (row2.map roD) (-1) = some (roD t) := by
        rw [gl, List.map_append]
        exact L2.atI_last _ _
      have dt : dep t ≤ 15 := by rw [gl, deps_app] at gd; simp [deps] at gd; omega
      have pt : parts t ≤ 100 := by rw [gl, partss_app] at gp; simp [partss] at gp; simp at hp; omega
      have gg : callN T 40 "_law_good" [(.sh, toD t)] = .ok (.sh, .bl true) none := c_good h 38 t (by omega) (by omega) (by omega)
      have at2 : L2.atI [toD t, .int (dep t : Int)] 0 = some (toD t) := rfl
      rw [List.map_cons, forL]
      generalize row.map roD = Q1 at *
      generalize row2.map roD = Q2 at *
      generalize so.map soD = Q3 at *
      generalize bs.map D.str = Q4 at *
      generalize ns.map D.int = Q5 at *
      clear gl gp gd hp hd
      rcases h4 with rfl | ⟨d4, rfl⟩ <;> simp [runF, ofE, argS, oneMu, low, evO, evI, getS, setS, rdy, ofO, finS, inp, muOf, muOk, refr, E.quiet, lows, bindTg, bind1, En.bindL, isMu, isOw, wipeE, src1, src2, ItK.two, R.bind_ok, R.toS_ok, e_var, e_own, e_fz, e_mv, e_mut, e_lit, e_gl, e_un, e_bin, e_sl, e_nix, e_chain, e_and, e_or, e_one, e_not, e_ite, e_tup, e_lst, e_dic0, e_dic1, e_call, e_get, e_pop, e_popAt, e_setdef, a_nil, a_cons, s_skip, s_seq, s_asg, s_asgT, s_asgP, s_aug, s_setI, s_app, s_clear, s_ex, s_ite, s_ret, s_retN, s_never, u_neg, u_lenL, u_lenT, u_lenS, u_listL, u_listT, u_tupL, u_tupT, u_sum, u_abs, u_all, u_isK, u_join, o_add, o_sub, o_mul, o_div, o_mod, o_pow, o_eqI, o_neI, o_lt, o_le, o_gt, o_ge, o_idx, o_max, o_min, opAdd, opSl, opIdx, opGe, kdOf, szOk, dv2, dv3, dv4, dv5, dv7, dv10, dv11, dv12, dv20, dv26, mu1, mu5, mu7, pw1, kd_str_tup, kd_str_lst, kd_str_dic, kd_str_int, kd_str_bl, kd_tup_str, kd_tup_lst, kd_tup_dic, kd_tup_int, kd_tup_bl, kd_lst_str, kd_lst_tup, kd_lst_dic, kd_lst_int, kd_lst_bl, kd_dic_str, kd_dic_tup, kd_dic_lst, kd_dic_int, kd_dic_bl, kd_int_str, kd_int_tup, kd_int_lst, kd_int_dic, kd_int_bl, kd_bl_str, kd_bl_tup, kd_bl_lst, kd_bl_dic, kd_bl_int, gr, at1, roD, at2, gg, e]
  have cl : (cut ns (some 2) (some 41)).length ≤ 39 := by
    unfold cut
    simp [HT.sIx]
    omega
  obtain ⟨s3', s4', e⟩ := loop (0 :: cut ns (some 2) (some 41)) [] none (.inl rfl) (by simp [deps]) (by simp [partss]; omega)
  have hi : evI (evE (callN T 40) (.bin .add (.lst (.cons (.lit (.int 0)) .nil)) (.sl (.var 0) (.lit (.int 2)) (.lit (.int 41))))) (evE (callN T 40) .nix) .seq [some (Sm.sh, .lst (ns.map D.int)), some (Sm.sh, .lst (so.map soD)), some (Sm.sh, .lst (bs.map D.str)), some (Sm.sh, .lst (([] : List Tm).map roD)), none] = .ok ((0 :: cut ns (some 2) (some 41)).map D.int) [some (Sm.sh, .lst (ns.map D.int)), some (Sm.sh, .lst (so.map soD)), some (Sm.sh, .lst (bs.map D.str)), some (Sm.sh, .lst (([] : List Tm).map roD)), none] := by
    refine i_seq (m := .fr) (.inr rfl) ?_
    have cm := cut_map D.int ns (some 2) (some 41)
    have sz : 1 + (cut ns (some 2) (some 41)).length ≤ sizeLine := by simp [sizeLine]; omega
    have z1 : 1 ≤ sizeLine := by decide
    simp [runF, ofE, argS, oneMu, low, evO, evI, getS, setS, rdy, ofO, finS, inp, muOf, muOk, refr, E.quiet, lows, bindTg, bind1, En.bindL, isMu, isOw, wipeE, src1, src2, ItK.two, R.bind_ok, R.toS_ok, e_var, e_own, e_fz, e_mv, e_mut, e_lit, e_gl, e_un, e_bin, e_sl, e_nix, e_chain, e_and, e_or, e_one, e_not, e_ite, e_tup, e_lst, e_dic0, e_dic1, e_call, e_get, e_pop, e_popAt, e_setdef, a_nil, a_cons, s_skip, s_seq, s_asg, s_asgT, s_asgP, s_aug, s_setI, s_app, s_clear, s_ex, s_ite, s_ret, s_retN, s_never, u_neg, u_lenL, u_lenT, u_lenS, u_listL, u_listT, u_tupL, u_tupT, u_sum, u_abs, u_all, u_isK, u_join, o_add, o_sub, o_mul, o_div, o_mod, o_pow, o_eqI, o_neI, o_lt, o_le, o_gt, o_ge, o_idx, o_max, o_min, opAdd, opSl, opIdx, opGe, kdOf, szOk, dv2, dv3, dv4, dv5, dv7, dv10, dv11, dv12, dv20, dv26, mu1, mu5, mu7, pw1, kd_str_tup, kd_str_lst, kd_str_dic, kd_str_int, kd_str_bl, kd_tup_str, kd_tup_lst, kd_tup_dic, kd_tup_int, kd_tup_bl, kd_lst_str, kd_lst_tup, kd_lst_dic, kd_lst_int, kd_lst_bl, kd_dic_str, kd_dic_tup, kd_dic_lst, kd_dic_int, kd_dic_bl, kd_int_str, kd_int_tup, kd_int_lst, kd_int_dic, kd_int_bl, kd_bl_str, kd_bl_tup, kd_bl_lst, kd_bl_dic, kd_bl_int, cm, sz, z1]
  have hf := (s_for hi).trans e
  simp only [f_law, b_law]
  simp only [List.map_nil] at hf
  have z0 : 0 ≤ sizeLine := by decide
  simp [runF, ofE, argS, oneMu, low, evO, evI, getS, setS, rdy, ofO, finS, inp, muOf, muOk, refr, E.quiet, lows, bindTg, bind1, En.bindL, isMu, isOw, wipeE, src1, src2, ItK.two, R.bind_ok, R.toS_ok, e_var, e_own, e_fz, e_mv, e_mut, e_lit, e_gl, e_un, e_bin, e_sl, e_nix, e_chain, e_and, e_or, e_one, e_not, e_ite, e_tup, e_lst, e_dic0, e_dic1, e_call, e_get, e_pop, e_popAt, e_setdef, a_nil, a_cons, s_skip, s_seq, s_asg, s_asgT, s_asgP, s_aug, s_setI, s_app, s_clear, s_ex, s_ite, s_ret, s_retN, s_never, u_neg, u_lenL, u_lenT, u_lenS, u_listL, u_listT, u_tupL, u_tupT, u_sum, u_abs, u_all, u_isK, u_join, o_add, o_sub, o_mul, o_div, o_mod, o_pow, o_eqI, o_neI, o_lt, o_le, o_gt, o_ge, o_idx, o_max, o_min, opAdd, opSl, opIdx, opGe, kdOf, szOk, dv2, dv3, dv4, dv5, dv7, dv10, dv11, dv12, dv20, dv26, mu1, mu5, mu7, pw1, kd_str_tup, kd_str_lst, kd_str_dic, kd_str_int, kd_str_bl, kd_tup_str, kd_tup_lst, kd_tup_dic, kd_tup_int, kd_tup_bl, kd_lst_str, kd_lst_tup, kd_lst_dic, kd_lst_int, kd_lst_bl, kd_dic_str, kd_dic_tup, kd_dic_lst, kd_dic_int, kd_dic_bl, kd_int_str, kd_int_tup, kd_int_lst, kd_int_dic, kd_int_bl, kd_bl_str, kd_bl_tup, kd_bl_lst, kd_bl_dic, kd_bl_int, c0, c1, e0, e1, z0, hf]
end
end Pu
end

section
set_option Elab.async false
set_option maxRecDepth 100000
set_option maxHeartbeats 0
namespace k01
open En PySem PySem.Spec L2
def top (i : Nat) : Stmt := PySem.Challenge.pw_endmeet_k01_parts_and_places.main.body.getD i (.Pass ⟨0, 0, 0, 0⟩)
def cs : List (Str × D) := []
def r_is_blank : En.Row := ⟨Sh.f_is_blank, top 1, ["term"]⟩
def r_inner : En.Row := ⟨Sh.f_inner, top 2, ["term"]⟩
def r_parts_of : En.Row := ⟨Sh.f_parts_of, top 3, ["term"]⟩
def r_places_of : En.Row := ⟨Sh.f_places_of, top 4, ["term"]⟩
def r__law_cell : En.Row := ⟨Sh.f__law_cell, top 6, ["_law_script", "_law_k"]⟩
def r__law_words : En.Row := ⟨Sh.f__law_words, top 7, ["_law_cell_here"]⟩
def r__law_sorts : En.Row := ⟨Sh.f__law_sorts, top 8, ["_law_cell_here"]⟩
def r__law_blanks : En.Row := ⟨Sh.f__law_blanks, top 9, ["_law_cell_here"]⟩
def r__law_grown : En.Row := ⟨Sh.f__law_grown, top 10, ["_law_row", "_law_number", "_law_sorts_here", "_law_blanks_here", "_law_most"]⟩
def r__law_count : En.Row := ⟨Sh.f__law_count, top 11, ["_law_term"]⟩
def r__law_leads : En.Row := ⟨Sh.f__law_leads, top 12, ["_law_term", "_law_place"]⟩
def r__law_good : En.Row := ⟨Sh.f__law_good, top 13, ["_law_term"]⟩
def r_law : En.Row := ⟨Sh.f_law, top 14, ["_law_script"]⟩
def rows : List En.Row := [r_is_blank, r_inner, r_parts_of, r_places_of, r__law_cell, r__law_words, r__law_sorts, r__law_blanks, r__law_grown, r__law_count, r__law_leads, r__law_good, r_law]
theorem s_is_blank : Stat (tabOf rows) cs r_is_blank := ⟨by decide +kernel, ⟨rfl, rfl, rfl, by decide +kernel, rfl, by decide +kernel, by decide +kernel⟩, rfl, by decide, fun _ _ _ _ _ _ us hl => match us, hl with | [_], _ => rfl⟩
theorem s_inner : Stat (tabOf rows) cs r_inner := ⟨by decide +kernel, ⟨rfl, rfl, rfl, by decide +kernel, rfl, by decide +kernel, by decide +kernel⟩, rfl, by decide, fun _ _ _ _ _ _ us hl => match us, hl with | [_], _ => rfl⟩
theorem s_parts_of : Stat (tabOf rows) cs r_parts_of := ⟨by decide +kernel, ⟨rfl, rfl, rfl, by decide +kernel, rfl, by decide +kernel, by decide +kernel⟩, rfl, by decide, fun _ _ _ _ _ _ us hl => match us, hl with | [_], _ => rfl⟩
theorem s_places_of : Stat (tabOf rows) cs r_places_of := ⟨by decide +kernel, ⟨rfl, rfl, rfl, by decide +kernel, rfl, by decide +kernel, by decide +kernel⟩, rfl, by decide, fun _ _ _ _ _ _ us hl => match us, hl with | [_], _ => rfl⟩
theorem s__law_cell : Stat (tabOf rows) cs r__law_cell := ⟨by decide +kernel, ⟨rfl, rfl, rfl, by decide +kernel, rfl, by decide +kernel, by decide +kernel⟩, rfl, by decide, fun _ _ _ _ _ _ us hl => match us, hl with | [_, _], _ => rfl⟩
theorem s__law_words : Stat (tabOf rows) cs r__law_words := ⟨by decide +kernel, ⟨rfl, rfl, rfl, by decide +kernel, rfl, by decide +kernel, by decide +kernel⟩, rfl, by decide, fun _ _ _ _ _ _ us hl => match us, hl with | [_], _ => rfl⟩
theorem s__law_sorts : Stat (tabOf rows) cs r__law_sorts := ⟨by decide +kernel, ⟨rfl, rfl, rfl, by decide +kernel, rfl, by decide +kernel, by decide +kernel⟩, rfl, by decide, fun _ _ _ _ _ _ us hl => match us, hl with | [_], _ => rfl⟩
theorem s__law_blanks : Stat (tabOf rows) cs r__law_blanks := ⟨by decide +kernel, ⟨rfl, rfl, rfl, by decide +kernel, rfl, by decide +kernel, by decide +kernel⟩, rfl, by decide, fun _ _ _ _ _ _ us hl => match us, hl with | [_], _ => rfl⟩
theorem s__law_grown : Stat (tabOf rows) cs r__law_grown := ⟨by decide +kernel, ⟨rfl, rfl, rfl, by decide +kernel, rfl, by decide +kernel, by decide +kernel⟩, rfl, by decide, fun _ _ _ _ _ _ us hl => match us, hl with | [_, _, _, _, _], _ => rfl⟩
theorem s__law_count : Stat (tabOf rows) cs r__law_count := ⟨by decide +kernel, ⟨rfl, rfl, rfl, by decide +kernel, rfl, by decide +kernel, by decide +kernel⟩, rfl, by decide, fun _ _ _ _ _ _ us hl => match us, hl with | [_], _ => rfl⟩
theorem s__law_leads : Stat (tabOf rows) cs r__law_leads := ⟨by decide +kernel, ⟨rfl, rfl, rfl, by decide +kernel, rfl, by decide +kernel, by decide +kernel⟩, rfl, by decide, fun _ _ _ _ _ _ us hl => match us, hl with | [_, _], _ => rfl⟩
theorem s__law_good : Stat (tabOf rows) cs r__law_good := ⟨by decide +kernel, ⟨rfl, rfl, rfl, by decide +kernel, rfl, by decide +kernel, by decide +kernel⟩, rfl, by decide, fun _ _ _ _ _ _ us hl => match us, hl with | [_], _ => rfl⟩
theorem s_law : Stat (tabOf rows) cs r_law := ⟨by decide +kernel, ⟨rfl, rfl, rfl, by decide +kernel, rfl, by decide +kernel, by decide +kernel⟩, rfl, by decide, fun _ _ _ _ _ _ us hl => match us, hl with | [_], _ => rfl⟩
theorem stats : ∀ r ∈ rows, Stat (tabOf rows) cs r := by
  intro r h
  simp only [rows, List.mem_cons, List.not_mem_nil, or_false] at h
  rcases h with rfl | rfl | rfl | rfl | rfl | rfl | rfl | rfl | rfl | rfl | rfl | rfl | rfl
  · exact s_is_blank
  · exact s_inner
  · exact s_parts_of
  · exact s_places_of
  · exact s__law_cell
  · exact s__law_words
  · exact s__law_sorts
  · exact s__law_blanks
  · exact s__law_grown
  · exact s__law_count
  · exact s__law_leads
  · exact s__law_good
  · exact s_law
def lo0 : List Str := ["is_blank", "inner", "parts_of", "places_of", "_law_cell", "_law_words", "_law_sorts", "_law_blanks", "_law_grown", "_law_count", "_law_leads", "_law_good"]
def loose : List Str := lo0
abbrev R : PySem.W.OpenRow := PySem.W.OpenLaw.row PySem.Challenge.rw_endmeet_k01_parts_and_places
abbrev hk : PySem.W.Hook := He.hookE 4 (fasOf cs rows) (fnsOf rows)
def ob (s : PySem.W.SharedT) : He.Al := He.obsG 4 (fasOf cs rows) (fnsOf rows) (HandSHeadRun.getT s)
theorem ob_eq (s : PySem.W.SharedT) : ob s = hk.obs s.abs := He.obsG_eq (HandSHeadRun.getT_eq s)
theorem run (w : World) : HandSHeadRun.RunEq R (PySem.W.view R.prog [14]) hk ob 1300 loose w := by
  intro os
  kernel_rfl
end k01
end

section
set_option Elab.async false
set_option maxRecDepth 100000
namespace k01
open En PySem Sh Pu
def deep : Nat := 40
theorem atT (r : En.Row) (h : (tabOf rows).lookup r.F.name = some r.F) : At (tabOf rows) r.F := h
theorem h01 : H01 (tabOf rows) := ⟨⟨atT r_is_blank (by kernel_rfl), atT r_inner (by kernel_rfl)⟩, atT r_parts_of (by kernel_rfl), atT r_places_of (by kernel_rfl), atT r__law_count (by kernel_rfl), atT r__law_leads (by kernel_rfl), atT r__law_good (by kernel_rfl)⟩
theorem hg : HG (tabOf rows) := ⟨atT r__law_cell (by kernel_rfl), atT r__law_words (by kernel_rfl), atT r__law_sorts (by kernel_rfl), atT r__law_blanks (by kernel_rfl), atT r__law_grown (by kernel_rfl)⟩
theorem law_true : ∀ ns : List Int, ns.length ≤ 63 → (∀ z ∈ ns, PySem.Builtin.Int.intBits z ≤ 1048576) → En.runF (En.callN (En.tabOf k01.rows) k01.deep) k01.r_law.F [(.sh, .lst (ns.map En.D.int))] = .ok (.sh, .bl true) none := fun ns _ _ => law01 h01 hg ns
end k01
end

section
open PySem PySem.W PySem.Calls PyProof.Rows
set_option maxHeartbeats 0 in
theorem PySem.Challenge.cw_endmeet_k01_parts_and_places_holds : PySem.Challenge.rw_endmeet_k01_parts_and_places.Holds := by
  w_on; o_law
  refine HandSHeadRun.head_any (r := OpenLaw.row PySem.Challenge.rw_endmeet_k01_parts_and_places) (q := view (OpenLaw.row PySem.Challenge.rw_endmeet_k01_parts_and_places).prog [14]) (H := k01.hk) (ob := k01.ob) (M := 1300) (loose := k01.loose) (d := HandSHeadRun.topDef (OpenLaw.row PySem.Challenge.rw_endmeet_k01_parts_and_places).prog 14) (kwd := []) k01.ob_eq
    (by kernel_rfl) (fun s => by kernel_rfl) k01.run (by kernel_rfl) (by kernel_rfl) (by kernel_rfl) (by rfl) (by first | assumption | decide +kernel) (by decide +kernel) ⟨rfl, rfl, rfl, rfl, rfl, by decide +kernel⟩ ?hw ?hc
  case hw => w_witness2
  case hc =>
    refine En.law_end (l := PySem.Challenge.rw_endmeet_k01_parts_and_places) (n := 63) (k := k01.deep) (rows := k01.rows) (cs := k01.cs) (r := k01.r_law) (x := "_law_script") rfl (by decide) (by kernel_rfl) ⟨rfl, by decide, by decide⟩ k01.stats (by kernel_rfl) (by simp [k01.rows]) rfl rfl (fun w mg h Y G => ?_) k01.law_true
    obtain ⟨K, KX, c⟩ := Y
    exact ⟨K, KX, En.facts_of KX G (by decide) c⟩
end
