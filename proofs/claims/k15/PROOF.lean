import PyProof.Rows.All
import HandS.ForMost
import HandS.ForExc
import HandS.CallSlots
import HandS.NoneIn
import HandS.Wide
import HandS.IsInst
import HandS.Deep
import HandS.Zip
import HandS.TupLe
import HandS.TupAny
import KE.KDictKeyed
import KE.KeyNested
import KE.DataMinMax
import HandS.SortKw
import HandS.TupMul
import HandS.DictComp
import KE.KEqDict
import PyProof.ListStr
import HandS.More
import HandS.SetKeys
import HandS.Small
import HandS.Style
import HandS.EndBits
import HandS.HeadHook1
import KE.KStateDown
import HandS.Head0
import HandS.Head1
import HandS.Head2
import PySem.Challenge.RW_endmeet_k15_none_alike
set_option Elab.async false
set_option linter.all false
set_option maxRecDepth 100000
section
set_option Elab.async false
set_option linter.all false
set_option maxRecDepth 100000
set_option maxHeartbeats 4000000
namespace En
open PySem L2

/-! ### data -/
inductive D where
  | non | bl (b : Bool) | int (i : Int) | str (x : Str)
  | tup (ds : List D) | lst (ds : List D) | dic (kvs : List (D × D)) | exc (c : Str) (d : D)
instance : Inhabited D := ⟨.non⟩

mutual
def D.toP : D → PyData
  | .non => .none
  | .bl b => .bool b
  | .int i => .int i
  | .str x => .str x
  | .tup ds => .tuple (D.toPs ds)
  | .lst ds => .list (D.toPs ds)
  | .dic _ => .dict []
  | .exc _ _ => .dict []
def D.toPs : List D → List PyData
  | [] => []
  | d :: ds => D.toP d :: D.toPs ds
end
/-- may be compared -/
def D.eqOk (d : D) : Bool := d.toP.canLay0 && decide (d.toP.depth ≤ 150)
def D.eq (a b : D) : Bool := PyData.eqv a.toP b.toP

mutual
/-- nothing in it may be changed -/
def D.pure : D → Bool
  | .lst _ | .dic _ | .exc _ _ => false
  | .tup ds => D.pures ds
  | _ => true
def D.pures : List D → Bool
  | [] => true
  | d :: ds => D.pure d && D.pures ds
end

/-! ### modes -/
inductive Md where
  | sh | fr | bo | mu (i : Nat)
  deriving DecidableEq
inductive Sm where
  | sh | ow | mu
  deriving DecidableEq
abbrev Val := Md × D
abbrev Env := List (Option (Sm × D))

inductive R (α : Type) where
  | ok (a : α) (env : Env) | exc (x : D) (env : Env) | stuck
inductive CR where
  | ok (v : Val) (fin : Option D) | exc (x : D) | stuck
inductive RS where
  | nx (env : Env) | rt (v : Val) (env : Env) | exc (x : D) (env : Env) | stuck
abbrev Calls := Str → List Val → CR

def R.bind {α β : Type} (m : R α) (f : α → Env → R β) : R β := match m with
  | .ok a env => f a env
  | .exc x env => .exc x env
  | .stuck => .stuck
@[simp] theorem R.bind_ok {α β : Type} (a : α) (env : Env) (f : α → Env → R β) : (R.ok a env).bind f = f a env := rfl
@[simp] theorem R.bind_exc {α β : Type} (x : D) (env : Env) (f : α → Env → R β) : (R.exc x env : R α).bind f = .exc x env := rfl
@[simp] theorem R.bind_stuck {α β : Type} (f : α → Env → R β) : (R.stuck : R α).bind f = .stuck := rfl

/-! ### operators on values -/
inductive Kd where
  | str | tup | lst | dic | int | bl
  deriving DecidableEq
inductive U1 where
  | neg | len | list | tuple | sum | abs | int | all | max0 | isNone | notNone | isK (k : Kd) | lenSet | sortSet | join | dict | sort | sortD | rev | maxL | isTrue | notTrue
  deriving DecidableEq
inductive U2 where
  | add | sub | mul | fdiv | mod | pow | eq | ne | lt | le | gt | ge | inn | nin | idx | max | min | index
  deriving DecidableEq
inductive ItK where
  | seq | rng | rng2 | enum | zip | items | keys | rev | chars
  deriving DecidableEq
inductive Tg where
  | one (i : Nat) | many (is : List Nat)
  deriving DecidableEq

def ints? : List D → Option (List Int)
  | [] => some []
  | .int i :: r => (ints? r).map (i :: ·)
  | _ :: _ => none
def bls? : List D → Option (List Bool)
  | [] => some []
  | .bl i :: r => (bls? r).map (i :: ·)
  | _ :: _ => none
def strs? : List D → Option (List Str)
  | [] => some []
  | .str i :: r => (strs? r).map (i :: ·)
  | _ :: _ => none

/-! ### dicts -/
def dget : List (D × D) → D → Option D
  | [], _ => none
  | (k, v) :: r, x => if k.eq x then some v else dget r x
def dput (kvs : List (D × D)) (x y : D) : List (D × D) :=
  if kvs.any (fun kv => kv.1.eq x) then kvs.map (fun kv => if kv.1.eq x then (kv.1, y) else kv) else kvs ++ [(x, y)]
mutual
/-- texts and tuples of such -/
def D.kst : D → Bool
  | .str _ => true
  | .tup ds => D.ksts ds
  | _ => false
def D.ksts : List D → Bool
  | [] => true
  | d :: ds => D.kst d && D.ksts ds
end
mutual
def D.kdep : D → Nat
  | .tup ds => D.kdeps ds + 1
  | _ => 0
def D.kdeps : List D → Nat
  | [] => 0
  | d :: ds => max (D.kdep d) (D.kdeps ds)
end
/-- may be a key -/
def keyOk (d : D) : Bool := match d with
  | .str _ => true
  | .tup ds => (D.tup ds).kst && decide ((D.tup ds).kdep ≤ 8)
  | _ => false
/-- keys of one kind -/
def strK (kvs : List (D × D)) : Bool := kvs.all fun kv => match kv.1 with | .str _ => true | _ => false
def tupK (kvs : List (D × D)) : Bool := kvs.all fun kv => match kv.1, kv.2 with | .tup _, .bl _ => true | _, _ => false
def keysOk (kvs : List (D × D)) (k : D) : Bool := match k with
  | .str _ => strK kvs
  | .tup _ => tupK kvs
  | _ => false
/-- both dicts: keys texts, the values compared -/
def dicsOk (a b : List (D × D)) : Bool := (strK a && a.all fun kv => kv.2.eqOk) && (strK b && b.all fun kv => kv.2.eqOk)
def dicsEq (a b : List (D × D)) : Bool := a.length == b.length && a.all fun kv => match dget b kv.1 with | some v => kv.2.eq v | none => false
/-- what may stand behind such a key -/
def valOk (k d : D) : Bool := match k with
  | .tup _ => (match d with | .bl _ => true | _ => false)
  | _ => true
/-- the first place -/
def idxS : List Str → Str → Option Nat
  | [], _ => none
  | z :: r, a => if z = a then some 0 else (idxS r a).map (· + 1)
def repD : Nat → List D → List D
  | 0, _ => []
  | n + 1, xs => xs ++ repD n xs

def kdOf (k : Kd) (d : D) : Option Bool := match d with
  | .non => some false
  | .str _ => some (k == .str)
  | .tup _ => some (k == .tup)
  | .lst _ => some (k == .lst)
  | .dic kvs => if strK kvs then some (k == .dic) else none
  | .int _ => some (k == .int)
  | .bl _ => some (k == .bl || k == .int)
  | .exc _ _ => some false

def maxI (a b : Int) : Int := if b > a then b else a
def minI (a b : Int) : Int := if b < a then b else a

def joinS : List Str → Str
  | [] => ⟨#[]⟩
  | x :: r => x ++ joinS r
def lenAll : List Str → Nat
  | [] => 0
  | x :: r => x.length + lenAll r
def chars (x : Str) : List D := x.cps.toList.map fun c => .str ⟨#[c]⟩

/-- the first of each kind -/
def dedI : List Int → List Int
  | [] => []
  | n :: r => if r.contains n then dedI r else n :: dedI r
def dedS : List Str → List Str
  | [] => []
  | n :: r => if r.contains n then dedS r else n :: dedS r
/-- the order of texts -/
def leS (a b : Str) : Bool := decide (a.cps.toList ≤ b.cps.toList)
def insS (x : Str) : List Str → List Str
  | [] => [x]
  | y :: r => if leS x y then x :: y :: r else y :: insS x r
def sortS : List Str → List Str
  | [] => []
  | x :: r => insS x (sortS r)

def op1 (o : U1) (d : D) : Option Val := match o with
  | .neg => match d with
    | .int i => some (.sh, .int (-i))
    | _ => none
  | .len => match d with
    | .lst ds => some (.sh, .int ds.length)
    | .tup ds => some (.sh, .int ds.length)
    | .str x => if x.length ≤ sizeLine then some (.sh, .int x.length) else none
    | .dic kvs => if strK kvs then some (.sh, .int kvs.length) else none
    | _ => none
  | .list => match d with
    | .lst ds => some (.fr, .lst ds)
    | .tup ds => some (.fr, .lst ds)
    | .str x => if x.length ≤ 1000 then some (.fr, .lst (chars x)) else none
    | _ => none
  | .tuple => match d with
    | .lst ds => some (.sh, .tup ds)
    | .tup ds => some (.sh, .tup ds)
    | _ => none
  | .sum => match d with
    | .lst ds => (ints? ds).map fun ns => (.sh, .int ns.sum)
    | _ => none
  | .abs => match d with
    | .int i => some (.sh, .int (if i < 0 then -i else i))
    | _ => none
  | .int => match d with
    | .int i => some (.sh, .int i)
    | .bl b => some (.sh, .int (if b then 1 else 0))
    | _ => none
  | .all => match d with
    | .lst ds => (bls? ds).map fun bs => (.sh, .bl (bs.all id))
    | _ => none
  | .max0 => match d with
    | .lst ds => (ints? ds).map fun ns => (.sh, .int (match ns with | [] => 0 | m :: r => r.foldl max m))
    | _ => none
  | .isNone => match d with
    | .non => some (.sh, .bl true)
    | _ => some (.sh, .bl false)
  | .notNone => match d with
    | .non => some (.sh, .bl false)
    | _ => some (.sh, .bl true)
  | .isK k => (kdOf k d).map fun b => (.sh, .bl b)
  | .lenSet => match d with
    | .lst ds => (ints? ds).bind fun ns => if ns.length < 4000 then some (.sh, .int (dedI ns).length) else none
    | _ => none
  | .sortSet => match d with
    | .lst ds => (strs? ds).bind fun xs => if xs.length < 4000 && (dedS xs).length < 64 then some (.fr, .lst ((sortS (dedS xs)).map .str)) else none
    | _ => none
  | .dict => match d with
    | .dic kvs => if strK kvs then some (.fr, .dic kvs) else none
    | _ => none
  | .sort => match d with
    | .lst ds => (strs? ds).bind fun xs => if xs.length < 64 then some (.fr, .lst ((sortS xs).map .str)) else none
    | _ => none
  | .sortD => match d with
    | .dic kvs => (strs? (kvs.map (·.1))).map fun xs => (.fr, .lst ((sortS xs).map .str))
    | _ => none
  | .rev => match d with
    | .lst ds => some (.fr, .lst ds.reverse)
    | _ => none
  | .maxL => match d with
    | .lst ds => (ints? ds).bind fun ns => match ns with | [] => none | m :: r => some (.sh, .int (r.foldl max m))
    | _ => none
  | .isTrue => match d with
    | .bl b => some (.sh, .bl b)
    | _ => none
  | .notTrue => match d with
    | .bl b => some (.sh, .bl (!b))
    | _ => none
  | .join => match d with
    | .lst ds => (strs? ds).bind fun xs => if lenAll xs ≤ 16777216 then some (.sh, .str (joinS xs)) else none
    | _ => none

def mulOk (i j : Int) : Bool := (decide (-(2 ^ 64) < i) && decide (i < 2 ^ 64)) || (decide (-(2 ^ 64) < j) && decide (j < 2 ^ 64)) || decide (i.natAbs.log2 + j.natAbs.log2 < 100000000)
def divOk (j : Int) : Bool := decide (0 < j) && decide (j.natAbs.log2 < 9000)
def powOk (i j : Int) : Bool := decide (0 ≤ j) && decide (j ≤ 1000000) && decide (i.natAbs < 2 ^ 64)
def szOk (n : Nat) : Bool := decide (n ≤ sizeLine)

def cut {α : Type} (xs : List α) (lo hi : Option Int) : List α := (xs.drop (HT.sIx xs.length 0 lo)).take (HT.sIx xs.length xs.length hi - HT.sIx xs.length 0 lo)

def onInts (f : Int → Int → Option Val) (a b : D) : Option Val := match a, b with
  | .int i, .int j => f i j
  | _, _ => none
def opAdd (a b : D) : Option Val := match a, b with
  | .int i, .int j => some (.sh, .int (i + j))
  | .str i, .str j => if szOk (i.length + j.length) then some (.sh, .str (i ++ j)) else none
  | .lst i, .lst j => if szOk (i.length + j.length) then some (.fr, .lst (i ++ j)) else none
  | .tup i, .tup j => if szOk (i.length + j.length) then some (.sh, .tup (i ++ j)) else none
  | _, _ => none
/-- >= of tuples of ints -/
def lexGe : List Int → List Int → Bool
  | [], [] => true
  | [], _ :: _ => false
  | _ :: _, [] => true
  | x :: xs, y :: ys => if x = y then lexGe xs ys else decide (y ≤ x)
def opCmp (fi : Int → Int → Bool) (a b : D) : Option Val := onInts (fun i j => some (.sh, .bl (fi i j))) a b
def opGe (a b : D) : Option Val := match a, b with
  | .int i, .int j => some (.sh, .bl (decide (j ≤ i)))
  | .tup xs, .tup ys => (ints? xs).bind fun is => (ints? ys).map fun js => (.sh, .bl (lexGe is js))
  | _, _ => none
def opIdx (a b : D) : Option Val := match a, b with
  | .lst xs, .int i => (L2.atI xs i).map fun d => (.sh, d)
  | .tup xs, .int i => (L2.atI xs i).map fun d => (.sh, d)
  | .str x, .int i => if szOk x.length then (L2.atI x.cps.toList i).map fun c => (.sh, .str ⟨#[c]⟩) else none
  | .dic kvs, .str x => if strK kvs then (dget kvs (.str x)).map fun d => (.sh, d) else none
  | .dic kvs, .tup ds => if keyOk (.tup ds) && keysOk kvs (.tup ds) then (dget kvs (.tup ds)).map fun d => (.sh, d) else none
  | _, _ => none
def opMul (a b : D) : Option Val := match a, b with
  | .int i, .int j => if mulOk i j then some (.sh, .int (i * j)) else none
  | .tup xs, .int j => if decide (xs ≠ []) && decide (0 ≤ j) && decide (j ≤ 1000) && decide (xs.length ≤ 1000) then some (.sh, .tup (repD j.toNat xs)) else none
  | _, _ => none
def opEq (a b : D) (f : Bool → Bool) : Option Val := match a, b with
  | .dic x, .dic y => if dicsOk x y then some (.sh, .bl (f (dicsEq x y))) else none
  | a, b => if a.eqOk && b.eqOk then some (.sh, .bl (f (a.eq b))) else none
def opIn (a b : D) (f : Bool → Bool) : Option Val := match b with
  | .lst ds => if a.eqOk && (D.lst ds).eqOk then some (.sh, .bl (f (ds.any fun z => z.eq a))) else none
  | .dic kvs => (match a with
    | .str x => if strK kvs then some (.sh, .bl (f (dget kvs (.str x)).isSome)) else none
    | .tup ds => if keyOk (.tup ds) && keysOk kvs (.tup ds) then some (.sh, .bl (f (dget kvs (.tup ds)).isSome)) else none
    | _ => none)
  | .str y => match a with
    | .str x => (match x.cps.toList with
      | [c] => some (.sh, .bl (f (y.cps.toList.contains c)))
      | _ => none)
    | _ => none
  | _ => none
def op2 (o : U2) (a b : D) : Option Val := match o with
  | .add => opAdd a b
  | .sub => onInts (fun i j => some (.sh, .int (i - j))) a b
  | .mul => opMul a b
  | .fdiv => onInts (fun i j => if divOk j then some (.sh, .int (i / j)) else none) a b
  | .mod => onInts (fun i j => if decide (0 < j) then some (.sh, .int (i % j)) else none) a b
  | .pow => onInts (fun i j => if powOk i j then some (.sh, .int (i ^ j.toNat)) else none) a b
  | .eq => opEq a b id
  | .ne => opEq a b not
  | .lt => opCmp (fun i j => decide (i < j)) a b
  | .le => opCmp (fun i j => decide (i ≤ j)) a b
  | .gt => opCmp (fun i j => decide (j < i)) a b
  | .ge => opGe a b
  | .inn => opIn a b id
  | .nin => opIn a b not
  | .idx => opIdx a b
  | .max => onInts (fun i j => some (.sh, .int (maxI i j))) a b
  | .min => onInts (fun i j => some (.sh, .int (minI i j))) a b
  | .index => match a, b with
    | .lst ds, .str x => (strs? ds).bind fun xs => (idxS xs x).map fun (n : Nat) => (Md.sh, D.int (n : Int))
    | _, _ => none

def opSl (a : D) (lo hi : Option Int) : Option Val := match a with
  | .lst xs => some (.fr, .lst (cut xs lo hi))
  | .tup xs => some (.sh, .tup (cut xs lo hi))
  | .str x => if szOk x.length then some (.sh, .str ⟨(cut x.cps.toList lo hi).toArray⟩) else none
  | _ => none

/-! ### the language -/
inductive E where
  | var (i : Nat) | own (i : Nat) | fz (i : Nat) | mv (i : Nat) | mut (i : Nat)
  | lit (d : D) | gl (x : Str) (d : D)
  | un (o : U1) (a : E) | bin (o : U2) (a b : E) | sl (a lo hi : E) | nix
  | chain (o o' : U2) (a b c : E)
  | and (a b : E) | or (a b : E) | one (a : E) | not (a : E) | ite (c a b : E)
  | nil | cons (a r : E) | tup (as : E) | lst (as : E) | dic0 | dic1 (k v : E) | dic2 (k v k' v' : E)
  | call (f : Str) (as : E)
  | lc (own : List (Str × Nat)) (tg : Tg) (k : ItK) (a b c e : E)
  | get (d k x : E)
  | pop (i : Nat) | popAt (i : Nat) (k : E) | setdef (i : Nat) (k x : E)
  | lend (i : Nat) (a : E)
  | fld (x : Str) (a : E) | isC (cs : List Str) (tup : Bool) (a : E) | mkf (c x : Str) (a : E) | mkIs (c : Str) (z : Str) (b : Str)
inductive S where
  | skip | seq (s t : S)
  | asg (i : Nat) (ow : Bool) (e : E) | asgM (i : Nat) (e : E) | asgT (is : List Nat) (e : E) | asgP (i j : Nat) (a b : E)
  | aug (i : Nat) (e : E) | setI (i : Nat) (k e : E) | app (i : Nat) (e : E) | clear (i : Nat)
  | frz (is : List Nat) | forC (i j : Nat) (c : E) (b : D) | forD (vs : List Nat) (i : Nat) (tg : Tg) (k : ItK) (s : S)
  | ex (e : E) | ite (c : E) (s t : S) | iteJ (vs : List Nat) (c : E) (s t : S) | for (vs : List Nat) (tg : Tg) (k : ItK) (a b : E) (s : S) | wh (vs : List Nat) (n : Nat) (c : E) (s : S)
  | ret (e : E) | retN | never
  | raise (c : Str) (e : E) | try (vs : List Nat) (s h : S) | hnil | hcons (c : Str) (nm : Option Nat) (s r : S)

def E.noDic : E → Bool
  | .cons .dic0 _ => false
  | .cons _ r => r.noDic
  | _ => true
/-- nothing that stood is changed -/
def E.quiet : E → Bool
  | .var _ | .own _ | .lit _ | .gl _ _ | .nix | .nil | .dic0 => true
  | .fz _ | .mv _ | .mut _ | .pop _ | .popAt _ _ | .setdef _ _ _ => false
  | .mkIs _ _ _ => true
  | .un _ a | .one a | .not a | .tup a | .lst a | .fld _ a | .isC _ _ a | .mkf _ _ a | .lend _ a => a.quiet
  | .call _ a => a.quiet && a.noDic
  | .bin _ a b | .and a b | .or a b | .cons a b | .dic1 a b => a.quiet && b.quiet
  | .sl a b c | .chain _ _ a b c | .ite a b c | .get a b c => a.quiet && b.quiet && c.quiet
  | .lc _ _ _ a b c e | .dic2 a b c e => a.quiet && b.quiet && c.quiet && e.quiet

/-! ### what may be changed -/
def tgL : Tg → List Nat
  | .one i => [i]
  | .many is => is
def touchE : E → List Nat
  | .var _ | .own _ | .lit _ | .gl _ _ | .nix | .nil | .dic0 | .mkIs _ _ _ => []
  | .fz i | .mv i | .mut i | .pop i => [i]
  | .popAt i k => touchE k ++ [i]
  | .setdef i k x => touchE k ++ (touchE x ++ [i])
  | .un _ a | .one a | .not a | .tup a | .lst a | .call _ a | .fld _ a | .isC _ _ a | .mkf _ _ a | .lend _ a => touchE a
  | .bin _ a b | .and a b | .or a b | .cons a b | .dic1 a b => touchE a ++ touchE b
  | .sl a b c | .chain _ _ a b c | .ite a b c | .get a b c => touchE a ++ (touchE b ++ touchE c)
  | .dic2 a b c e => touchE a ++ (touchE b ++ (touchE c ++ touchE e))
  | .lc own tg _ a b c e => touchE a ++ (touchE b ++ (own.map (·.2) ++ (tgL tg ++ (touchE c ++ touchE e))))
/-- .. and is there behind it -/
def keepE : E → List Nat
  | .var _ | .own _ | .lit _ | .gl _ _ | .nix | .nil | .dic0 | .mkIs _ _ _ => []
  | .fz i | .mv i | .mut i | .pop i => [i]
  | .popAt i k => keepE k ++ [i]
  | .setdef i k x => keepE k ++ (keepE x ++ [i])
  | .un _ a | .one a | .not a | .tup a | .lst a | .call _ a | .fld _ a | .isC _ _ a | .mkf _ _ a | .lend _ a => keepE a
  | .bin _ a b | .and a b | .or a b | .cons a b | .dic1 a b => keepE a ++ keepE b
  | .sl a b c | .chain _ _ a b c | .ite a b c | .get a b c => keepE a ++ (keepE b ++ keepE c)
  | .dic2 a b c e => keepE a ++ (keepE b ++ (keepE c ++ keepE e))
  | .lc _ _ _ a b c e => keepE a ++ (keepE b ++ (keepE c ++ keepE e))
def touchS : S → List Nat
  | .skip | .retN | .never | .hnil => []
  | .frz is => is
  | .forC _ j c _ => j :: touchE c
  | .forD _ _ tg _ s => tgL tg ++ touchS s
  | .seq s t => touchS s ++ touchS t
  | .asg i _ e | .asgM i e | .aug i e | .app i e => touchE e ++ [i]
  | .asgT is e => touchE e ++ is
  | .asgP i j a b => touchE a ++ (touchE b ++ [i, j])
  | .setI i k e => touchE e ++ (touchE k ++ [i])
  | .clear i => [i]
  | .ex e | .ret e | .raise _ e => touchE e
  | .ite c s t | .iteJ _ c s t => touchE c ++ (touchS s ++ touchS t)
  | .for _ tg _ a b s => touchE a ++ (touchE b ++ (tgL tg ++ touchS s))
  | .wh _ _ c s => touchE c ++ touchS s
  | .try _ s h => touchS s ++ touchS h
  | .hcons _ nm s r => (match nm with | some i => [i] | none => []) ++ (touchS s ++ touchS r)

/-! ### the evaluator -/
def getS (env : Env) (i : Nat) : Option (Sm × D) := (env[i]?).join
def setS (env : Env) (i : Nat) (s : Option (Sm × D)) : Env := env.set i s
def isMu (env : Env) (i : Nat) : Bool := match getS env i with
  | some (.mu, _) => true
  | _ => false
def isOw (env : Env) (i : Nat) : Bool := match getS env i with
  | some (.mu, _) => true
  | some (.ow, _) => true
  | _ => false
/-- a list that is owned -/
def isLO (env : Env) (i : Nat) : Bool := match getS env i with
  | some (.mu, .lst _) => true
  | some (.ow, .lst _) => true
  | _ => false
/-- a dict that is owned, its keys texts -/
def isDO (env : Env) (i : Nat) : Bool := match getS env i with
  | some (.mu, .dic kvs) => strK kvs
  | some (.ow, .dic kvs) => strK kvs
  | _ => false
def ofO (o : Option Val) (env : Env) : R Val := match o with
  | some v => .ok v env
  | none => .stuck
def inp (v : Val) : Bool := match v.1 with
  | .bo => true
  | _ => false
def low (v : Val) : Option D := match v.1 with
  | .sh => some v.2
  | .fr => some v.2
  | _ => none
def rdy (v : Val) : Option D := match v.1 with
  | .mu _ => none
  | _ => some v.2

/-- a list -/
def isLV (v : Val) : Bool := match rdy v with
  | some (.lst _) => true
  | _ => false
def lows : List Val → Option (List D)
  | [] => some []
  | v :: r => (low v).bind fun d => (lows r).map fun ds => d :: ds
def muOf : List Val → Option Nat
  | [] => none
  | (.mu i, _) :: _ => some i
  | _ :: r => muOf r
/-- mutable arguments as they stand at the call -/
def refr (env : Env) : List Val → List Val
  | [] => []
  | (.mu i, d) :: r => (.mu i, match getS env i with | some (_, d') => d' | none => d) :: refr env r
  | v :: r => v :: refr env r
def muOk (env : Env) : List Val → Bool
  | [] => true
  | (.mu i, _) :: r => isOw env i && muOk env r
  | _ :: r => muOk env r
def putBack (env : Env) (i : Nat) (d : D) : Env := match getS env i with
  | some (m, _) => setS env i (some (m, d))
  | none => env

def bind1 (i : Nat) (x : D) (env : Env) : Option Env := if isMu env i then none else if i < env.length then some (setS env i (some (.sh, x))) else none
def bindL : List Nat → List D → Env → Option Env
  | [], [], env => some env
  | i :: is, x :: xs, env => (bind1 i x env).bind fun env' => bindL is xs env'
  | _, _, _ => none
def bindTg (t : Tg) (x : D) (env : Env) : Option Env := match t with
  | .one i => bind1 i x env
  | .many is => match x with
    | .tup ds => bindL is ds env
    | .lst ds => bindL is ds env
    | _ => none

def enumD : Nat → List D → List D
  | _, [] => []
  | n, x :: r => .tup [.int n, x] :: enumD (n + 1) r
def zipD : List D → List D → List D
  | x :: r, y :: r' => .tup [x, y] :: zipD r r'
  | _, _ => []
def rangeD : Int → Nat → List D
  | _, 0 => []
  | lo, n + 1 => .int lo :: rangeD (lo + 1) n

/-- what is walked -/
def src1 (k : ItK) (d : D) : Option (List D) := match k with
  | .seq => match d with
    | .lst ds => some ds
    | .tup ds => some ds
    | _ => none
  | .rng => match d with
    | .int n => if decide (-(2 ^ 62) ≤ n) && decide (n < 2 ^ 62) then some (rangeD 0 n.toNat) else none
    | _ => none
  | .enum => match d with
    | .lst ds => some (enumD 0 ds)
    | _ => none
  | .chars => match d with
    | .str x => some (chars x)
    | _ => none
  | .rev => match d with
    | .lst ds => some ds.reverse
    | _ => none
  | .items => match d with
    | .dic kvs => if strK kvs then some (kvs.map fun kv => .tup [kv.1, kv.2]) else none
    | _ => none
  | .keys => match d with
    | .dic kvs => if strK kvs then some (kvs.map (·.1)) else none
    | _ => none
  | _ => none
def src2 (k : ItK) (a b : D) : Option (List D) := match k with
  | .rng2 => match a, b with
    | .int m, .int n => if decide (-(2 ^ 62) ≤ m) && decide (m < 2 ^ 62) && decide (-(2 ^ 62) ≤ n) && decide (n < 2 ^ 62) then some (rangeD m (n - m).toNat) else none
    | _, _ => none
  | .zip => match a, b with
    | .lst xs, .lst ys => some (zipD xs ys)
    | .tup xs, .tup ys => some (zipD xs ys)
    | _, _ => none
  | _ => none
def ItK.two : ItK → Bool
  | .rng2 | .zip => true
  | _ => false

/-- the items of what is walked -/
def evI (f g : Env → R Val) (k : ItK) (env : Env) : R (List D) := (f env).bind fun v env => (g env).bind fun w env => match low v, low w with
  | some d, some d' => (match if k.two then src2 k d d' else src1 k d with
    | some xs => .ok xs env
    | none => .stuck)
  | _, _ => .stuck

def wipeE (env : Env) : List Nat → Env
  | [] => env
  | v :: vs => (wipeE env vs).set v none
/-- nothing may be raised here -/
def R.hard {α : Type} (m : R α) : R α := match m with
  | .exc _ _ => .stuck
  | r => r
@[simp] theorem R.hard_ok {α : Type} (a : α) (env : Env) : (R.ok a env).hard = .ok a env := rfl
@[simp] theorem R.hard_stuck {α : Type} : (R.stuck : R α).hard = .stuck := rfl
def lcL (f : Env → R Val) (g : Env → R Val) (tg : Tg) (vs : List Nat) : List D → List D → Env → R (List D)
  | [], acc, env => .ok acc env
  | x :: xs, acc, env => match bindTg tg x env with
    | none => .stuck
    | some env1 => (f env1).hard.bind fun b env2 => match b with
      | (.sh, .bl true) => (g env2).hard.bind fun v env3 => match low v with
        | some d => if szOk (acc.length + 1) && !vs.any (isOw env3) then lcL f g tg vs xs (acc ++ [d]) (wipeE env3 vs) else .stuck
        | none => .stuck
      | (.sh, .bl false) => if !vs.any (isOw env2) then lcL f g tg vs xs acc (wipeE env2 vs) else .stuck
      | _ => .stuck

/-- an end of a slice -/
def evO (f : Env → R Val) (e : E) (env : Env) : R (Option Int) := match e with
  | .nix => .ok none env
  | _ => (f env).bind fun v env => match v with
    | (.sh, .int i) => .ok (some i) env
    | _ => .stuck

/-! ### own exceptions -/
def fieldOf (c : Str) : Option Str :=
  if c == "NoPlace" then some "place" else if c == "NoRule" then some "rule" else if c == "TwoCounts" then some "sign" else if c == "TooLong" then some "term" else if c == "NoRank" then some "rules" else none
def subCls (c b : Str) : Bool := c == b || ((fieldOf c).isSome && (b == "EndError" || b == "ValueError")) || (c == "EndError" && b == "ValueError")
def isCls (c : Str) (d : D) : Bool := match d with
  | .exc c' _ => subCls c' c
  | _ => false

mutual
def evE (C : Calls) : E → Env → R Val
  | .var i, env => match getS env i with
    | some (.sh, d) => .ok (.sh, d) env
    | _ => .stuck
  | .own i, env => match getS env i with
    | some (.sh, d) => .ok (.sh, d) env
    | some (_, d) => .ok (.bo, d) env
    | none => .stuck
  | .fz i, env => match getS env i with
    | some (.sh, d) => .ok (.sh, d) env
    | some (.ow, d) => .ok (.sh, d) (setS env i (some (.sh, d)))
    | _ => .stuck
  | .mv i, env => match getS env i with
    | some (.ow, d) => .ok (.fr, d) (setS env i none)
    | _ => .stuck
  | .mut i, env => match getS env i with
    | some (.ow, d) => .ok (.mu i, d) env
    | some (.mu, d) => .ok (.mu i, d) env
    | _ => .stuck
  | .lit d, env => .ok (.sh, d) env
  | .gl _ d, env => .ok (.sh, d) env
  | .un o a, env => (evE C a env).bind fun v env => match rdy v with
    | some d => ofO (op1 o d) env
    | none => .stuck
  | .bin o a b, env => (evE C a env).bind fun v env => if o == .index && !isLV v then .stuck else (evE C b env).bind fun w env => if inp v && !b.quiet then .stuck else match rdy v, rdy w with
    | some d, some e => ofO (op2 o d e) env
    | _, _ => .stuck
  | .sl a lo hi, env => (evE C a env).bind fun v env => (evO (evE C lo) lo env).bind fun l env => (evO (evE C hi) hi env).bind fun h env =>
    if inp v && !(lo.quiet && hi.quiet) then .stuck else match rdy v with
    | some d => ofO (opSl d l h) env
    | none => .stuck
  | .nix, env => .ok (.sh, .non) env
  | .chain o o' a b c, env => (evE C a env).bind fun u env => (evE C b env).bind fun v env => match u, v with
    | (.sh, du), (.sh, dv) => (match op2 o du dv with
      | some (.sh, .bl true) => (evE C c env).bind fun w env => match w with
        | (.sh, dw) => ofO (op2 o' dv dw) env
        | _ => .stuck
      | some (.sh, .bl false) => .ok (.sh, .bl false) env
      | _ => .stuck)
    | _, _ => .stuck
  | .and a b, env => (evE C a env).bind fun v env => match v with
    | (.sh, .bl true) => evE C b env
    | (.sh, .bl false) => .ok (.sh, .bl false) env
    | _ => .stuck
  | .or a b, env => (evE C a env).bind fun v env => match v with
    | (.sh, .bl true) => .ok (.sh, .bl true) env
    | (.sh, .bl false) => evE C b env
    | _ => .stuck
  | .one a, env => evE C a env
  | .not a, env => (evE C a env).bind fun v env => match v with
    | (.sh, .bl b) => .ok (.sh, .bl (!b)) env
    | _ => .stuck
  | .ite c a b, env => (evE C c env).bind fun v env => match v with
    | (.sh, .bl true) => evE C a env
    | (.sh, .bl false) => evE C b env
    | _ => .stuck
  | .nil, _ => .stuck
  | .cons _ _, _ => .stuck
  | .tup as, env => (evA C as env).bind fun vs env => match lows vs with
    | some ds => if szOk ds.length then .ok (.sh, .tup ds) env else .stuck
    | none => .stuck
  | .lst as, env => (evA C as env).bind fun vs env => match lows vs with
    | some ds => if szOk ds.length then .ok (.fr, .lst ds) env else .stuck
    | none => .stuck
  | .dic0, env => .ok (.fr, .dic []) env
  | .dic1 k v, env => (evE C k env).bind fun a env => (evE C v env).bind fun b env => match a, low b with
    | (.sh, .str x), some d => .ok (.fr, .dic [(.str x, d)]) env
    | _, _ => .stuck
  | .dic2 k v k' v', env => (evE C k env).bind fun a env => (evE C v env).bind fun b env => (evE C k' env).bind fun a' env => (evE C v' env).bind fun b' env => match a, low b, a', low b' with
    | (.sh, .str x), some d, (.sh, .str x'), some d' => .ok (.fr, .dic (dput [(.str x, d)] (.str x') d')) env
    | _, _, _, _ => .stuck
  | .call f as, env => (evA C as env).bind fun vs env => if (as.quiet && (muOf vs).isSome) || !muOk env vs then .stuck else match C f (refr env vs) with
    | .ok v none => match muOf vs with
      | none => .ok v env
      | some _ => .stuck
    | .ok v (some d) => match muOf vs with
      | none => if as.quiet && as.noDic then .stuck else .ok v env
      | some i => .ok v (putBack env i d)
    | .exc x => match muOf vs with
      | none => .exc x env
      | some _ => .stuck
    | .stuck => .stuck
  | .lc own tg k a b c e, env => (evI (evE C a) (evE C b) k env).bind fun xs env => if (own.map (·.2)).any (isOw env) then .stuck else
    (lcL (evE C c) (evE C e) tg (own.map (·.2)) xs [] (wipeE env (own.map (·.2)))).bind fun ds env' => .ok (.fr, .lst ds) env'
  | .get d k x, env => (evE C d env).bind fun v env => match rdy v with
    | some (.dic kvs) => if !strK kvs || (inp v && !(k.quiet && x.quiet)) then .stuck else (evE C k env).bind fun kk env => (evE C x env).bind fun xx env => match kk, low xx with
      | (.sh, .str y), some z => .ok (.sh, (dget kvs (.str y)).getD z) env
      | _, _ => .stuck
    | _ => .stuck
  | .pop i, env => match getS env i with
    | some (m, .lst ds) => if m == .sh then .stuck else match ds.getLast? with
      | some d => .ok (.sh, d) (setS env i (some (m, .lst ds.dropLast)))
      | none => .stuck
    | _ => .stuck
  | .popAt i k, env => if !isLO env i then .stuck else (evE C k env).bind fun v env => match v, getS env i with
    | (.sh, .int j), some (m, .lst ds) => if m == .sh || !szOk ds.length then .stuck else match L2.ixN ds.length j with
      | some n => match ds[n]? with
        | some d => .ok (.sh, d) (setS env i (some (m, .lst (ds.eraseIdx n))))
        | none => .stuck
      | none => .stuck
    | _, _ => .stuck
  | .setdef i k x, env => if !isDO env i then .stuck else (evE C k env).bind fun v env => (evE C x env).bind fun w env => match v, low w, getS env i with
    | (.sh, .str y), some d, some (m, .dic kvs) => if m == .sh || !strK kvs || !szOk (kvs.length + 1) then .stuck else match dget kvs (.str y) with
      | some z => .ok (.sh, z) env
      | none => .ok (.sh, d) (setS env i (some (m, .dic (dput kvs (.str y) d))))
    | _, _, _ => .stuck
  | .lend i a, env => match getS env i with
    | some (m, d) => if m == .sh || !a.quiet || (touchE a).contains i || (touchE a).any (isOw env) then .stuck else (evE C a (setS env i (some (.sh, d)))).bind fun v _ => match v with
      | (.sh, r) => if r.pure then .ok (.sh, r) (wipeE env (touchE a)) else .stuck
      | _ => .stuck
    | none => .stuck
  | .fld x a, env => (evE C a env).bind fun v env => match v with
    | (.sh, .exc c d) => if fieldOf c == some x then .ok (.sh, d) env else .stuck
    | _ => .stuck
  | .isC cs _ a, env => (evE C a env).bind fun v env => match v with
    | (.sh, d) => .ok (.sh, .bl (cs.any fun c => isCls c d)) env
    | _ => .stuck
  | .mkf c x a, env => (evE C a env).bind fun v env => match low v with
    | some d => if fieldOf c == some x then .ok (.sh, d) env else .stuck
    | none => .stuck
  | .mkIs c _ b, env => .ok (.sh, .bl (subCls c b)) env
def evA (C : Calls) : E → Env → R (List Val)
  | .nil, env => .ok [] env
  | .cons a r, env => (evE C a env).bind fun v env => (evA C r env).bind fun vs env => if inp v then .stuck else .ok (v :: vs) env
  | _, _ => .stuck
end

def forL (tg : Tg) (f : Env → RS) : List D → Env → RS
  | [], env => .nx env
  | x :: xs, env => match bindTg tg x env with
    | none => .stuck
    | some env1 => match f env1 with
      | .nx env2 => forL tg f xs env2
      | r => r
def whL (c : Env → R Val) (f : Env → RS) : Nat → Env → RS
  | 0, _ => .stuck
  | n + 1, env => match c env with
    | .ok (.sh, .bl true) env1 => (match f env1 with
      | .nx env2 => whL c f n env2
      | r => r)
    | .ok (.sh, .bl false) env1 => .nx env1
    | .exc x env1 => .exc x env1
    | _ => .stuck
def R.toS {α : Type} (m : R α) (f : α → Env → RS) : RS := match m with
  | .ok a env => f a env
  | .exc x env => .exc x env
  | .stuck => .stuck
@[simp] theorem R.toS_ok {α : Type} (a : α) (env : Env) (f : α → Env → RS) : (R.ok a env).toS f = f a env := rfl
@[simp] theorem R.toS_exc {α : Type} (x : D) (env : Env) (f : α → Env → RS) : (R.exc x env : R α).toS f = .exc x env := rfl
@[simp] theorem R.toS_stuck {α : Type} (f : α → Env → RS) : (R.stuck : R α).toS f = .stuck := rfl
/-- a loop that looks, and may end the def -/
def forCL (f : D → R Val) (b : D) (env : Env) (j : Nat) : List D → RS
  | [] => .nx (setS env j none)
  | x :: xs => match f x with
    | .ok (.sh, .bl true) _ => .rt (.sh, b) (setS env j none)
    | .ok (.sh, .bl false) _ => forCL f b env j xs
    | _ => .stuck
/-- nothing may be raised here -/
def RS.hard (r : RS) : RS := match r with
  | .exc _ _ => .stuck
  | r => r
def ItK.dic : ItK → Bool
  | .items | .keys => true
  | _ => false
/-- given up as owned -/
def frzE (env : Env) : List Nat → Env
  | [] => env
  | i :: is => match getS env i with
    | some (.ow, d) => frzE (setS env i (some (.sh, d))) is
    | _ => frzE env is
def ofE (o : Option Env) : RS := match o with
  | some env => .nx env
  | none => .stuck

mutual
def evS (C : Calls) : S → Env → RS
  | .skip, env => .nx env
  | .seq s t, env => match evS C s env with
    | .nx env1 => evS C t env1
    | r => r
  | .asg i ow e, env => (evE C e env).toS fun v env => if isMu env i then .stuck else if env.length ≤ i then .stuck else match ow, v with
    | true, (.fr, d) => .nx (setS env i (some (.ow, d)))
    | false, v => match low v with
      | some d => .nx (setS env i (some (.sh, d)))
      | none => .stuck
    | _, _ => .stuck
  | .asgM i e, env => (evE C e env).toS fun v env => if isMu env i then .stuck else if env.length ≤ i then .stuck else match v with
    | (.fr, d) => .nx (setS env i (some (.ow, d)))
    | (.sh, d) => if d.pure then .nx (setS env i (some (.sh, d))) else .stuck
    | _ => .stuck
  | .asgT is e, env => (evE C e env).toS fun v env => match low v with
    | some (.tup ds) => ofE (bindL is ds env)
    | some (.lst ds) => ofE (bindL is ds env)
    | _ => .stuck
  | .asgP i j a b, env => (evE C a env).toS fun v env => (evE C b env).toS fun w env => match low v, low w with
    | some d, some e => if i == j then .stuck else ofE (bindL [i, j] [d, e] env)
    | _, _ => .stuck
  | .aug i e, env => if (getS env i).isNone then .stuck else (evE C e env).toS fun v env => match getS env i, rdy v with
    | some (.sh, .int a), some (.int b) => .nx (setS env i (some (.sh, .int (a + b))))
    | some (m, .lst xs), some (.lst ys) => if m == .sh then .stuck else if szOk (xs.length + ys.length) then .nx (setS env i (some (m, .lst (xs ++ ys)))) else .stuck
    | _, _ => .stuck
  | .setI i k e, env => (evE C e env).toS fun v env => if !isOw env i then .stuck else (evE C k env).toS fun w env => match low v, w, getS env i with
    | some d, (.sh, .int j), some (m, .lst ds) => if m == .sh then .stuck else match L2.ixN ds.length j with
      | some n => .nx (setS env i (some (m, .lst (ds.set n d))))
      | none => .stuck
    | some d, (.sh, k), some (m, .dic kvs) => if m == .sh || !(keyOk k && keysOk kvs k && valOk k d) then .stuck else if szOk (kvs.length + 1) then .nx (setS env i (some (m, .dic (dput kvs k d)))) else .stuck
    | _, _, _ => .stuck
  | .app i e, env => if !isLO env i then .stuck else (evE C e env).toS fun v env => match low v, getS env i with
    | some d, some (m, .lst ds) => if m == .sh then .stuck else if szOk (ds.length + 1) then .nx (setS env i (some (m, .lst (ds ++ [d])))) else .stuck
    | _, _ => .stuck
  | .clear i, env => match getS env i with
    | some (m, .lst _) => if m == .sh then .stuck else .nx (setS env i (some (m, .lst [])))
    | _ => .stuck
  | .frz is, env => .nx (frzE env is)
  | .forC i j c b, env => match getS env i with
    | some (m, .lst ds) => if m == .sh || i == j || !c.quiet || (touchE c).any (isOw env) || isOw env j || decide (env.length ≤ j) || !b.pure then .stuck else forCL (fun x => evE C c (setS env j (some (.sh, x)))) b (wipeE env (touchE c)) j ds
    | _ => .stuck
  | .forD _ i tg k s, env => match getS env i with
    | some (.sh, .dic kvs) => if k.dic then (match src1 k (.dic kvs) with
      | some xs => (forL tg (evS C s) xs env).hard
      | none => .stuck) else .stuck
    | _ => .stuck
  | .ex e, env => (evE C e env).toS fun _ env => .nx env
  | .ite c s t, env => (evE C c env).toS fun v env => match v with
    | (.sh, .bl true) => evS C s env
    | (.sh, .bl false) => evS C t env
    | _ => .stuck
  | .iteJ _ c s t, env => (evE C c env).toS fun v env => match v with
    | (.sh, .bl true) => evS C s env
    | (.sh, .bl false) => evS C t env
    | _ => .stuck
  | .for _ tg k a b s, env => (evI (evE C a) (evE C b) k env).toS fun xs env => forL tg (evS C s) xs env
  | .wh _ n c s, env => whL (evE C c) (evS C s) n env
  | .ret e, env => (evE C e env).toS fun v env => match low v with
    | some _ => .rt v env
    | none => .stuck
  | .retN, env => .rt (.sh, .non) env
  | .never, _ => .stuck
  | .raise c e, env => (evE C e env).toS fun v env => match low v with
    | some d => if (fieldOf c).isSome then .exc (.exc c d) env else .stuck
    | none => .stuck
  | .try _ s h, env => match evS C s env with
    | .exc x env1 => evH C h x env1
    | r => r
  | .hnil, _ => .stuck
  | .hcons _ _ _ _, _ => .stuck
/-- the except clauses -/
def evH (C : Calls) : S → D → Env → RS
  | .hnil, x, env => .exc x env
  | .hcons c nm s r, x, env => if isCls c x then (match nm with
    | none => evS C s env
    | some i => if isOw env i || decide (env.length ≤ i) then .stuck else match evS C s (setS env i (some (.sh, x))) with
      | .nx env1 => if isOw env1 i then .stuck else .nx (setS env1 i none)
      | .rt v env1 => .rt v env1
      | .exc _ _ => .stuck
      | .stuck => .stuck)
    else evH C r x env
  | _, _, _ => .stuck
end

/-! ### how long a while may run: a number that is great, and not more is known of it -/
theorem fuel_ex : ∃ n : Nat, 10 ^ 100 ≤ n := ⟨_, Nat.le_refl _⟩
noncomputable def fuel : Nat := Classical.choose fuel_ex
theorem fuel_ge : 10 ^ 100 ≤ fuel := Classical.choose_spec fuel_ex

/-! ### defs -/
structure Fn where
  name : Str
  N : List Str
  pm : List Sm
  body : S
def argS : List Sm → List Val → Option Env
  | [], [] => some []
  | .sh :: ms, v :: vs => (low v).bind fun d => (argS ms vs).map fun r => some (.sh, d) :: r
  | .mu :: ms, (.mu _, d) :: vs => (argS ms vs).map fun r => some (.mu, d) :: r
  | _, _ => none
/-- a new thing for the last parameter, which may be changed -/
def argF : List Sm → List Val → Option Env
  | [.mu], [(.fr, d)] => some [some (.mu, d)]
  | .sh :: ms, (.sh, d) :: vs => (argF ms vs).map fun r => some (.sh, d) :: r
  | _, _ => none
def argX (ms : List Sm) (vs : List Val) : Option Env := match argS ms vs with
  | some e => some e
  | none => argF ms vs
/-- the mutable parameter's end -/
def finS : List Sm → Env → Option D
  | .mu :: _, some (.mu, d) :: _ => some d
  | _ :: ms, _ :: env => finS ms env
  | _, _ => none
def oneMu : List Sm → Bool
  | [] => true
  | .mu :: ms => !ms.contains .mu
  | _ :: ms => oneMu ms
def runF (C : Calls) (F : Fn) (vs : List Val) : CR := match argX F.pm vs with
  | none => .stuck
  | some env0 => if !oneMu F.pm then .stuck else match evS C F.body (env0 ++ List.replicate (F.N.length - env0.length) none) with
    | .nx env => if F.pm.contains .mu && (finS F.pm env).isNone then .stuck else .ok (.sh, .non) (finS F.pm env)
    | .rt v env => if F.pm.contains .mu && (finS F.pm env).isNone then .stuck else .ok v (finS F.pm env)
    | .exc x _ => if F.pm.contains .mu then .stuck else .exc x
    | .stuck => .stuck
abbrev Tab := List (Str × Fn)
def callN (T : Tab) : Nat → Calls
  | 0 => fun _ _ => .stuck
  | n + 1 => fun f vs => match T.lookup f with
    | some F => runF (callN T n) F vs
    | none => .stuck
end En
end

section
set_option Elab.async false
set_option linter.all false
set_option maxRecDepth 100000
set_option maxHeartbeats 4000000
namespace En
open PySem PySem.Spec L2

/-! ### data in the heap -/
abbrev OS := Addr → Prop
def Ex (H H' : Hp) : Prop := ∀ a o, H a = some o → H' a = some o
theorem Ex.rfl' {H : Hp} : Ex H H := fun _ _ h => h
theorem Ex.trans {H H1 H2 : Hp} (x : Ex H H1) (y : Ex H1 H2) : Ex H H2 := fun a o h => y a o (x a o h)
theorem Ex.new {H : Hp} {p : Addr} {o : HO} (h : H p = none) : Ex H (upd H p o) := fun a u e => by
  rw [upd_ne (ne_of_none e h)]; exact e
def plus (O : OS) (p : Addr) : OS := fun a => O a ∨ a = p

/-- a dict's key as data -/
def kD : Key → D
  | .inl i => .int i
  | .inr x => .str x

/-- the world that the texts are run in (its hashes) -/
class Wd where
  wd : World
variable [Wd]
mutual
/-- a key of texts and tuples -/
def nk : D → NestedKey
  | .str x => .text x
  | .tup ds => .tup (nks ds)
  | _ => .none
def nks : List D → List NestedKey
  | [] => []
  | d :: ds => nk d :: nks ds
end
/-- a dict with such keys -/
def entN (x : NestedKey × Addr × Value) : DictEntry := ⟨x.1.hash Wd.wd, .ref x.2.1, x.2.2⟩
def nO (a : Addr) (xs : List (NestedKey × Addr × Value)) : HO := .ext fun h => (a == sysModules) = false ∧ xs.length ≤ sizeLine ∧ ∃ o es ep, h.get? a = some o ∧ o.ExactDict ∧ o.data = .dict es ep ∧ es.toList = xs.map entN ∧ (xs.map (·.1)).Nodup

mutual
inductive Rp (H : Hp) (O : OS) : V → D → Prop
  | non : Rp H O .non .non
  | bl (b : Bool) : Rp H O (.bl b) (.bl b)
  | int (i : Int) : Rp H O (.int i) (.int i)
  | str (x : Str) : Rp H O (.str x) (.str x)
  | tup {a : Addr} {vs : List V} {ds : List D} : ¬ O a → Rd H a (.tup vs) → Rps H O vs ds → Rp H O (.ref a) (.tup ds)
  | lst {a : Addr} {vs : List V} {ds : List D} : ¬ O a → Rd H a (.lst vs) → Rps H O vs ds → Rp H O (.ref a) (.lst ds)
  | dic {a : Addr} {kv : List (Key × V)} {ds : List (D × D)} : ¬ O a → Rd H a (.dK kv) → Rpk H O kv ds → Rp H O (.ref a) (.dic ds)
  | dicN {a : Addr} {kv : List (NestedKey × Addr × Value)} {ds : List (D × D)} : ¬ O a → H a = some (nO a kv) → kv ≠ [] → Rpn H O kv ds → Rp H O (.ref a) (.dic ds)
inductive Rps (H : Hp) (O : OS) : List V → List D → Prop
  | nil : Rps H O [] []
  | cons {v : V} {vs : List V} {d : D} {ds : List D} : Rp H O v d → Rps H O vs ds → Rps H O (v :: vs) (d :: ds)
inductive Rpk (H : Hp) (O : OS) : List (Key × V) → List (D × D) → Prop
  | nil : Rpk H O [] []
  | cons {k : Key} {v : V} {vs : List (Key × V)} {d : D} {ds : List (D × D)} : Rp H O v d → Rpk H O vs ds → Rpk H O ((k, v) :: vs) ((kD k, d) :: ds)
inductive Rpn (H : Hp) (O : OS) : List (NestedKey × Addr × Value) → List (D × D) → Prop
  | nil : Rpn H O [] []
  | cons {b : Addr} {ks : List D} {t : Bool} {vs : List (NestedKey × Addr × Value)} {ds : List (D × D)} : Rp H O (.ref b) (.tup ks) → keyOk (.tup ks) = true → Rpn H O vs ds → Rpn H O ((nk (.tup ks), b, .bool t) :: vs) ((.tup ks, .bl t) :: ds)
end

section
variable {H H' : Hp} {O O' : OS}
/-- what holds of data when the heap goes on -/
def Goes1 (H H' : Hp) (O O' : OS) : Prop := (∀ a o, H a = some o → ¬ O a → H' a = some o) ∧ ∀ a, O' a → O a ∨ H a = none
theorem Goes1.rd {a : Addr} {u : HO} (g : Goes1 H H' O O') (n : ¬ O a) (h : Rd H a u) : Rd H' a u ∧ ¬ O' a := by
  rcases h with h | ⟨o, h⟩
  · exact ⟨.inl (g.1 a _ h n), fun z => by rcases g.2 a z with z | z; exact n z; rw [h] at z; cases z⟩
  · exact ⟨.inr ⟨o, g.1 a _ h n⟩, fun z => by rcases g.2 a z with z | z; exact n z; rw [h] at z; cases z⟩
theorem Goes1.at1 {a : Addr} {u : HO} (g : Goes1 H H' O O') (n : ¬ O a) (h : H a = some u) : H' a = some u ∧ ¬ O' a :=
  ⟨g.1 a _ h n, fun z => by rcases g.2 a z with z | z; exact n z; rw [h] at z; cases z⟩
mutual
theorem Rp.go (g : Goes1 H H' O O') : ∀ {v : V} {d : D}, Rp H O v d → Rp H' O' v d
  | _, _, .non => .non
  | _, _, .bl b => .bl b
  | _, _, .int i => .int i
  | _, _, .str x => .str x
  | _, _, .tup n h r => .tup (g.rd n h).2 (g.rd n h).1 (Rps.go g r)
  | _, _, .lst n h r => .lst (g.rd n h).2 (g.rd n h).1 (Rps.go g r)
  | _, _, .dic n h r => .dic (g.rd n h).2 (g.rd n h).1 (Rpk.go g r)
  | _, _, .dicN n h z r => .dicN (g.at1 n h).2 (g.at1 n h).1 z (Rpn.go g r)
theorem Rps.go (g : Goes1 H H' O O') : ∀ {v : List V} {d : List D}, Rps H O v d → Rps H' O' v d
  | _, _, .nil => .nil
  | _, _, .cons h r => .cons (Rp.go g h) (Rps.go g r)
theorem Rpk.go (g : Goes1 H H' O O') : ∀ {v : List (Key × V)} {d : List (D × D)}, Rpk H O v d → Rpk H' O' v d
  | _, _, .nil => .nil
  | _, _, .cons h r => .cons (Rp.go g h) (Rpk.go g r)
theorem Rpn.go (g : Goes1 H H' O O') : ∀ {v : List (NestedKey × Addr × Value)} {d : List (D × D)}, Rpn H O v d → Rpn H' O' v d
  | _, _, .nil => .nil
  | _, _, .cons h k r => .cons (Rp.go g h) k (Rpn.go g r)
end
theorem Goes1.ex (e : Ex H H') : Goes1 H H' O O := ⟨fun a o h _ => e a o h, fun _ z => .inl z⟩
theorem Goes1.less (s : ∀ a, O' a → O a) : Goes1 H H O O' := ⟨fun _ _ h _ => h, fun a z => .inl (s a z)⟩
theorem Rps.length {vs : List V} {ds : List D} (r : Rps H O vs ds) : vs.length = ds.length := by
  induction vs generalizing ds with
  | nil => cases r; rfl
  | cons v vs ih => cases r with
    | cons _ r => simp only [List.length_cons, ih r]
theorem Rpk.length {vs : List (Key × V)} {ds : List (D × D)} (r : Rpk H O vs ds) : vs.length = ds.length := by
  induction vs generalizing ds with
  | nil => cases r; rfl
  | cons v vs ih => cases r with
    | cons _ r => simp only [List.length_cons, ih r]
theorem Rpn.length {vs : List (NestedKey × Addr × Value)} {ds : List (D × D)} (r : Rpn H O vs ds) : vs.length = ds.length := by
  induction vs generalizing ds with
  | nil => cases r; rfl
  | cons v vs ih => cases r with
    | cons _ _ r => simp only [List.length_cons, ih r]
theorem Rps.app {vs ws : List V} {ds es : List D} (r : Rps H O vs ds) (s : Rps H O ws es) : Rps H O (vs ++ ws) (ds ++ es) := by
  induction vs generalizing ds with
  | nil => cases r; exact s
  | cons v vs ih => cases r with
    | cons h r => exact .cons h (ih r)
theorem Rps.get {vs : List V} {ds : List D} (r : Rps H O vs ds) : ∀ {i : Nat} {d : D}, ds[i]? = some d → ∃ v, vs[i]? = some v ∧ Rp H O v d := by
  induction vs generalizing ds with
  | nil => cases r; intro i d h; simp at h
  | cons v vs ih => cases r with
    | cons h r =>
      intro i d e
      cases i with
      | zero => simp at e; subst e; exact ⟨v, rfl, h⟩
      | succ i => exact ih r (by simpa using e)
theorem Rps.getV {vs : List V} {ds : List D} (r : Rps H O vs ds) : ∀ {i : Nat} {v : V}, vs[i]? = some v → ∃ d, ds[i]? = some d ∧ Rp H O v d := by
  induction vs generalizing ds with
  | nil => cases r; intro i d h; simp at h
  | cons w vs ih => cases r with
    | cons h r =>
      intro i d e
      cases i with
      | zero => simp at e; subst e; exact ⟨_, rfl, h⟩
      | succ i => exact ih r (by simpa using e)
theorem Rps.drop {vs : List V} {ds : List D} (r : Rps H O vs ds) : ∀ (n : Nat), Rps H O (vs.drop n) (ds.drop n) := by
  induction vs generalizing ds with
  | nil => cases r; intro n; simpa using Rps.nil
  | cons v vs ih => cases r with
    | cons h r =>
      intro n
      cases n with
      | zero => exact .cons h r
      | succ n => exact ih r n
theorem Rps.take {vs : List V} {ds : List D} (r : Rps H O vs ds) : ∀ (n : Nat), Rps H O (vs.take n) (ds.take n) := by
  induction vs generalizing ds with
  | nil => cases r; intro n; simpa using Rps.nil
  | cons v vs ih => cases r with
    | cons h r =>
      intro n
      cases n with
      | zero => exact .nil
      | succ n => exact .cons h (ih r n)
theorem Rps.set {vs : List V} {ds : List D} {w : V} {e : D} (q : Rp H O w e) (r : Rps H O vs ds) : ∀ (n : Nat), Rps H O (vs.set n w) (ds.set n e) := by
  induction vs generalizing ds with
  | nil => cases r; intro n; simpa using Rps.nil
  | cons v vs ih => cases r with
    | cons h r =>
      intro n
      cases n with
      | zero => exact .cons q r
      | succ n => exact .cons h (ih r n)
theorem Rps.erase {vs : List V} {ds : List D} (r : Rps H O vs ds) : ∀ (n : Nat), Rps H O (vs.eraseIdx n) (ds.eraseIdx n) := by
  induction vs generalizing ds with
  | nil => cases r; intro n; simpa using Rps.nil
  | cons v vs ih => cases r with
    | cons h r =>
      intro n
      cases n with
      | zero => exact r
      | succ n => exact .cons h (ih r n)
theorem Rps.dropLast {vs : List V} {ds : List D} (r : Rps H O vs ds) : Rps H O vs.dropLast ds.dropLast := by
  rw [List.dropLast_eq_take, List.dropLast_eq_take, r.length]
  exact r.take _
theorem Rps.rev {vs : List V} {ds : List D} (r : Rps H O vs ds) : Rps H O vs.reverse ds.reverse := by
  induction vs generalizing ds with
  | nil => cases r; simpa using Rps.nil
  | cons v vs ih => cases r with
    | cons h r => simp only [List.reverse_cons]; exact (ih r).app (.cons h .nil)
theorem Rps.cut {vs : List V} {ds : List D} (r : Rps H O vs ds) (lo hi : Option Int) : Rps H O (cutV vs lo hi) (cut ds lo hi) := by
  unfold cutV En.cut
  rw [r.length]
  exact (r.drop _).take _
theorem Rps.at {vs : List V} {ds : List D} (r : Rps H O vs ds) {i : Int} {d : D} (h : atI ds i = some d) : ∃ v, atI vs i = some v ∧ Rp H O v d := by
  unfold atI at h ⊢
  rw [r.length]
  cases e : ixN ds.length i with
  | none => rw [e] at h; cases h
  | some j =>
    rw [e] at h
    obtain ⟨v, hv, q⟩ := r.get (i := j) (d := d) h
    exact ⟨v, hv, q⟩
theorem Rps.ints {vs : List V} {ds : List D} (r : Rps H O vs ds) : ∀ {ns : List Int}, ints? ds = some ns → vs = ns.map V.int := by
  induction vs generalizing ds with
  | nil => cases r; intro ns h; cases h; rfl
  | cons v vs ih => cases r with
    | cons h r =>
      intro ns e
      cases h with
      | int i =>
        simp only [ints?] at e
        obtain ⟨ms, em, en⟩ := Option.map_eq_some_iff.mp e
        subst en
        rw [ih r em]; rfl
      | _ => simp [ints?] at e
theorem Rps.bls {vs : List V} {ds : List D} (r : Rps H O vs ds) : ∀ {ns : List Bool}, bls? ds = some ns → vs = ns.map V.bl := by
  induction vs generalizing ds with
  | nil => cases r; intro ns h; cases h; rfl
  | cons v vs ih => cases r with
    | cons h r =>
      intro ns e
      cases h with
      | bl i =>
        simp only [bls?] at e
        obtain ⟨ms, em, en⟩ := Option.map_eq_some_iff.mp e
        subst en
        rw [ih r em]; rfl
      | _ => simp [bls?] at e
theorem Rps.strs {vs : List V} {ds : List D} (r : Rps H O vs ds) : ∀ {ns : List Str}, strs? ds = some ns → vs = ns.map V.str := by
  induction vs generalizing ds with
  | nil => cases r; intro ns h; cases h; rfl
  | cons v vs ih => cases r with
    | cons h r =>
      intro ns e
      cases h with
      | str i =>
        simp only [strs?] at e
        obtain ⟨ms, em, en⟩ := Option.map_eq_some_iff.mp e
        subst en
        rw [ih r em]; rfl
      | _ => simp [strs?] at e

/-- the value itself may be owned, what it holds is not -/
def RpT (H : Hp) (O : OS) (v : V) : D → Prop
  | .lst ds => ∃ a vs, v = .ref a ∧ Rd H a (.lst vs) ∧ Rps H O vs ds
  | .dic ds => (∃ a kv, v = .ref a ∧ Rd H a (.dK kv) ∧ Rpk H O kv ds) ∨ ∃ a kv, v = .ref a ∧ H a = some (nO a kv) ∧ kv ≠ [] ∧ Rpn H O kv ds
  | d => Rp H O v d
theorem Rp.top {v : V} {d : D} (h : Rp H O v d) : RpT H O v d := by
  cases h with
  | tup n h r => exact Rp.tup n h r
  | lst n h r => exact ⟨_, _, rfl, h, r⟩
  | dic n h r => exact .inl ⟨_, _, rfl, h, r⟩
  | dicN n h z r => exact .inr ⟨_, _, rfl, h, z, r⟩
  | non => exact Rp.non
  | bl b => exact Rp.bl b
  | int i => exact Rp.int i
  | str x => exact Rp.str x
/-- a list, a dict that may be changed -/
def OwnT (H : Hp) (O : OS) (a : Addr) : D → Prop
  | .lst ds => ∃ vs, H a = some (.lst vs) ∧ Rps H O vs ds
  | .dic ds => (∃ kv, H a = some (.dK kv) ∧ Rpk H O kv ds) ∨ ∃ kv, H a = some (nO a kv) ∧ kv ≠ [] ∧ Rpn H O kv ds
  | _ => False
theorem OwnT.top {a : Addr} {d : D} (h : OwnT H O a d) : RpT H O (.ref a) d := by
  cases d with
  | lst ds => obtain ⟨vs, h, r⟩ := h; exact ⟨a, vs, rfl, .inl h, r⟩
  | dic ds =>
    rcases h with ⟨vs, h, r⟩ | ⟨vs, h, r⟩
    · exact .inl ⟨a, vs, rfl, .inl h, r⟩
    · exact .inr ⟨a, vs, rfl, h, r⟩
  | _ => exact h.elim
theorem OwnT.some {a : Addr} {d : D} (h : OwnT H O a d) : H a ≠ none := by
  cases d with
  | lst ds => obtain ⟨vs, h, r⟩ := h; rw [h]; simp
  | dic ds => rcases h with ⟨vs, h, r⟩ | ⟨vs, h, r⟩ <;> (rw [h]; simp)
  | _ => exact h.elim
theorem OwnT.rp {a : Addr} {d : D} (h : OwnT H O a d) (n : ¬ O a) : Rp H O (.ref a) d := by
  cases d with
  | lst ds => obtain ⟨vs, h, r⟩ := h; exact .lst n (.inl h) r
  | dic ds =>
    rcases h with ⟨vs, h, r⟩ | ⟨vs, h, z, r⟩
    · exact .dic n (.inl h) r
    · exact .dicN n h z r
  | _ => exact h.elim
theorem OwnT.go {a : Addr} {d : D} (g : Goes1 H H' O O') (k : ∀ o, H a = Option.some o → H' a = Option.some o) (h : OwnT H O a d) : OwnT H' O' a d := by
  cases d with
  | lst ds => obtain ⟨vs, h, r⟩ := h; exact ⟨vs, k _ h, r.go g⟩
  | dic ds =>
    rcases h with ⟨vs, h, r⟩ | ⟨vs, h, z, r⟩
    · exact .inl ⟨vs, k _ h, r.go g⟩
    · exact .inr ⟨vs, k _ h, z, r.go g⟩
  | _ => exact h.elim
theorem RpT.go {v : V} {d : D} (g : Goes1 H H' O O') (k : ∀ a o, v = .ref a → H a = Option.some o → H' a = Option.some o) (h : RpT H O v d) : RpT H' O' v d := by
  have kr : ∀ a u, v = .ref a → Rd H a u → Rd H' a u := fun a u e r => by
    rcases r with r | ⟨o, r⟩
    · exact .inl (k a _ e r)
    · exact .inr ⟨o, k a _ e r⟩
  cases d with
  | tup ds => exact Rp.go g h
  | lst ds => obtain ⟨a, vs, e, h, r⟩ := h; exact ⟨a, vs, e, kr a _ e h, r.go g⟩
  | dic ds =>
    rcases h with ⟨a, vs, e, h, r⟩ | ⟨a, vs, e, h, z, r⟩
    · exact .inl ⟨a, vs, e, kr a _ e h, r.go g⟩
    · exact .inr ⟨a, vs, e, k a _ e h, z, r.go g⟩
  | non => exact Rp.go g h
  | bl b => exact Rp.go g h
  | int b => exact Rp.go g h
  | str b => exact Rp.go g h
  | exc c b => exact Rp.go g h
end

theorem RpT.tup {H : Hp} {O : OS} {v : V} {ds : List D} (h : RpT H O v (.tup ds)) : ∃ a vs, v = .ref a ∧ ¬ O a ∧ Rd H a (.tup vs) ∧ Rps H O vs ds := by
  cases (show Rp H O v (.tup ds) from h) with
  | tup n h1 r => exact ⟨_, _, rfl, n, h1, r⟩

/-! ### what is written of data: the library's own reading of it -/
section
variable {H : Hp} {O : OS} {K : PySem.W.Frag}
mutual
theorem Rp.dp : ∀ {v : V} {d : D}, Rp H O v d → d.toP.canLay0 = true → Dp K H v d.toP
  | _, _, .non, _ => .non
  | _, _, .bl b, _ => .bl b
  | _, _, .int i, _ => .int i
  | _, _, .str x, _ => .str x
  | _, _, .tup n h r, c => .tup (.inl h) (Rps.dp r (by simpa [D.toP, PyData.canLay0] using c))
  | _, _, .lst n h r, c => .lst (.inl h) (Rps.dp r (by simpa [D.toP, PyData.canLay0] using c))
  | _, _, .dic n h r, c => by simp [D.toP, PyData.canLay0] at c
  | _, _, .dicN n h z r, c => by simp [D.toP, PyData.canLay0] at c
theorem Rps.dp : ∀ {v : List V} {d : List D}, Rps H O v d → PyData.canLayAll0 (D.toPs d) = true → DpAll K H v (D.toPs d)
  | _, _, .nil, _ => .nil
  | _, _, .cons h r, c => by
    simp only [D.toPs, PyData.canLayAll0, Bool.and_eq_true] at c
    exact .cons (Rp.dp h c.1) (Rps.dp r c.2)
end
theorem RpT.dp {v : V} {d : D} (h : RpT H O v d) (c : d.toP.canLay0 = true) : Dp K H v d.toP := by
  cases d with
  | tup ds => exact Rp.dp h c
  | lst ds => obtain ⟨a, vs, rfl, h, r⟩ := h; exact .lst (.inl h) (Rps.dp r (by simpa [D.toP, PyData.canLay0] using c))
  | dic ds => simp [D.toP, PyData.canLay0] at c
  | exc a b => simp [D.toP, PyData.canLay0] at c
  | non => exact Rp.dp h c
  | bl b => exact Rp.dp h c
  | int b => exact Rp.dp h c
  | str b => exact Rp.dp h c
end
end En
end

section
set_option Elab.async false
set_option linter.all false
set_option maxRecDepth 100000
set_option maxHeartbeats 4000000
namespace En
open PySem PySem.Spec PyProof.Rows L2
variable [Wd]

/-- what is wanted of an operation's value -/
def VPost (O : OS) (H : Hp) (Q : VK) : Val → Prop
  | (.sh, d) => ∀ v H', Ex H H' → Rp H' O v d → Q v H'
  | (.fr, d) => ∀ p H', H p = none → Ex H H' → OwnT H' (plus O p) p d → Q (.ref p) H'
  | _ => False
theorem VPost.s {O : OS} {H : Hp} {Q : VK} {d : D} {v : V} (h : VPost O H Q (.sh, d)) (r : Rp H O v d) : Q v H := h v H Ex.rfl' r
/-- a new list of items that stand -/
theorem VPost.l {O : OS} {H : Hp} {Q : VK} {ds : List D} {vs : List V} (h : VPost O H Q (.fr, .lst ds)) (r : Rps H O vs ds) : ∀ p, H p = none → Q (.ref p) (upd H p (.lst vs)) := fun p hp =>
  h p _ hp (Ex.new hp) ⟨vs, upd_same, r.go ⟨fun a o e _ => Ex.new hp a o e, fun a z => z.imp id fun z => by rw [z]; exact hp⟩⟩
theorem VPost.t {O : OS} {H : Hp} {Q : VK} {ds : List D} {vs : List V} (h : VPost O H Q (.sh, .tup ds)) (r : Rps H O vs ds) (hO : ∀ a, O a → H a ≠ none) : ∀ p, H p = none → Q (.ref p) (upd H p (.tup vs)) := fun p hp =>
  h _ _ (Ex.new hp) (.tup (fun z => hO p z hp) (.inl upd_same) (r.go (Goes1.ex (Ex.new hp))))

/-- one value -/
def q1 (o : U1) : V → Hp → VK → Prop := fun x H Q => ∃ O d r, (∀ a, O a → H a ≠ none) ∧ RpT H O x d ∧ op1 o d = some r ∧ VPost O H Q r
/-- .. as the argument of a call -/
def c1 (o : U1) : List V → Hp → VK → Prop := fun xs H Q => ∃ x, xs = [x] ∧ q1 o x H Q
/-- two values -/
def q2 (o : U2) : R2 := fun x y H Q => ∃ O d e r, (∀ a, O a → H a ≠ none) ∧ RpT H O x d ∧ RpT H O y e ∧ op2 o d e = some r ∧ VPost O H Q r
def c2 (o : U2) : List V → Hp → VK → Prop := fun xs H Q => ∃ x y, xs = [x, y] ∧ q2 o x y H Q

section
variable {X : Cx}
theorem RpT.int {H : Hp} {O : OS} {v : V} {i : Int} (h : RpT H O v (.int i)) : v = .int i := by
  cases (show Rp H O v (.int i) from h); rfl
theorem RpT.str {H : Hp} {O : OS} {v : V} {i : Str} (h : RpT H O v (.str i)) : v = .str i := by
  cases (show Rp H O v (.str i) from h); rfl
theorem RpT.bl {H : Hp} {O : OS} {v : V} {i : Bool} (h : RpT H O v (.bl i)) : v = .bl i := by
  cases (show Rp H O v (.bl i) from h); rfl
theorem RpT.non {H : Hp} {O : OS} {v : V} (h : RpT H O v .non) : v = .non := by
  cases (show Rp H O v .non from h); rfl

theorem signs_rp {H : Hp} {O : OS} : ∀ cs : List Nat, Rps H O (cs.map fun c => V.str ⟨#[c]⟩) (cs.map fun c => D.str ⟨#[c]⟩)
  | [] => .nil
  | c :: cs => .cons (.str _) (signs_rp cs)
theorem vals_at : ∀ {xs : List V} {us : List Value}, us.length = xs.length → (∀ (j : Nat) (u : Value) (x : V), us[j]? = some u → xs[j]? = some x → L2.RelV x u) → Vals xs us
  | [], [], _, _ => .nil
  | [], _ :: _, h, _ => by simp at h
  | _ :: _, [], h, _ => by simp at h
  | x :: xs, u :: us, h, k => .cons (k 0 u x rfl rfl) (vals_at (by simpa using h) fun j v y e1 e2 => k (j + 1) v y (by simpa using e1) (by simpa using e2))
theorem signs_vals {z : Str} {acc : Array Value} (h : ItemsOf (SignAt z) acc z.cps.size) : Vals (z.cps.toList.map fun c => V.str ⟨#[c]⟩) acc.toList := by
  refine vals_at (by rw [Array.length_toList, h.1, List.length_map, Array.length_toList]) fun j u x e1 e2 => ?_
  rw [Array.getElem?_toList] at e1
  obtain ⟨c, t, e3, rfl⟩ := h.2 j u e1
  rw [List.getElem?_map, Array.getElem?_toList, e3] at e2
  cases e2
  exact ⟨t, rfl⟩
/-- a dict with keys that are texts -/
theorem strs_of {H : Hp} {O : OS} {v : V} {ds : List (D × D)} (h : RpT H O v (.dic ds)) (k : strK ds = true) : ∃ a kv, v = .ref a ∧ Rd H a (.dK kv) ∧ Rpk H O kv ds := by
  rcases h with h | ⟨a, xs, rfl, h, z, r⟩
  · exact h
  · cases r with
    | nil => exact absurd rfl z
    | cons => simp [strK] at k
/-! ### one value -/
theorem ok_neg : UnR X (unaryOp .USub) (q1 .neg) := by
  rintro pins s σ H x v Q I rx ⟨O, d, r, hO, hd, e, q⟩
  cases d with
  | int i =>
    cases e
    exact un_neg pins s σ H x v Q I rx ⟨i, hd.int, q.s (.int _)⟩
  | _ => cases e
theorem ok_len : CallR X (.builtin "len") (c1 .len) := by
  rintro pins s σ H xs us Q I rs ⟨x, rfl, O, d, r, hO, hd, e, q⟩
  cases d with
  | lst ds =>
    cases e
    obtain ⟨a, vs, rfl, h, rr⟩ := hd
    refine call_len_seq pins s σ H _ us Q I rs ⟨a, vs, rfl, .inl (.inl h), ?_⟩
    rw [rr.length]; exact q.s (.int _)
  | tup ds =>
    cases e
    obtain ⟨a, vs, rfl, _, h, rr⟩ := hd.tup
    refine call_len_seq pins s σ H _ us Q I rs ⟨a, vs, rfl, .inr (.inl h), ?_⟩
    rw [rr.length]; exact q.s (.int _)
  | str z =>
    simp only [op1] at e
    split at e
    · cases e
      exact call_len_str pins s σ H _ us Q I rs ⟨z, by rw [hd.str], by assumption, q.s (.int _)⟩
    · cases e
  | dic ds =>
    simp only [op1] at e
    split at e
    · rename_i hk
      cases e
      obtain ⟨a, kv, rfl, h, rr⟩ := strs_of hd hk
      rw [Vals.ref1 rs]
      exact d_len I h fun t s' I' => ⟨.int ds.length, H, I', ⟨t, by rw [rr.length]⟩, q.s (.int _)⟩
    · cases e
  | _ => cases e
theorem ok_list (hc : X.calm = true) : CallR X (.type "list") (c1 .list) := by
  rintro pins s σ H xs us Q I rs ⟨x, rfl, O, d, r, hO, hd, e, q⟩
  cases d with
  | lst ds =>
    cases e
    obtain ⟨a, vs, rfl, h, rr⟩ := hd
    exact call_list_of pins s σ H _ us Q I rs ⟨a, vs, rfl, .inl (.inl h), q.l rr⟩
  | tup ds =>
    cases e
    obtain ⟨a, vs, rfl, _, h, rr⟩ := hd.tup
    exact call_list_of pins s σ H _ us Q I rs ⟨a, vs, rfl, .inr (.inl h), q.l rr⟩
  | str z =>
    simp only [op1] at e
    split at e
    · rename_i hz
      cases e
      have hv := hd.str
      subst hv
      obtain ⟨u, rfl, t, rfl⟩ := vals1 rs
      have hz' : z.cps.size ≤ sizeLine := Nat.le_trans hz (by decide)
      refine call_list_str (I.ok.hd hc) z t (fun h' tk acc' c' hk hS hacc => ?_) hz'
      have rv : ∃ its : List Value, its = acc'.toList ∧ Vals (z.cps.toList.map fun c => V.str ⟨#[c]⟩) its := ⟨_, rfl, signs_vals hacc⟩
      obtain ⟨its, ei, rv⟩ := rv
      have ea : acc' = its.toArray := by rw [ei]
      rw [ea] at hS
      refine ⟨.ref s.heap.objs.size, upd H s.heap.objs.size (.lst (z.cps.toList.map fun c => V.str ⟨#[c]⟩)), I.laid (t' := tk) (fun b u e => hk b u e) (Nat.le_refl _) (show ObjOk X.prog X.w _ _ _ (.lst _) from ⟨by simpa using hz', its, c', rv, hS⟩), rfl, ?_⟩
      exact q.l (signs_rp _) _ (I.hok.fresh (Nat.le_refl _))
    · cases e
  | _ => cases e
theorem ok_tuple : CallR X (.type "tuple") (c1 .tuple) := by
  rintro pins s σ H xs us Q I rs ⟨x, rfl, O, d, r, hO, hd, e, q⟩
  cases d with
  | lst ds =>
    cases e
    obtain ⟨a, vs, rfl, h, rr⟩ := hd
    exact call_tuple_of pins s σ H _ us Q I rs ⟨a, vs, rfl, .inl ⟨.inl h, q.t rr hO⟩⟩
  | tup ds =>
    cases e
    obtain ⟨a, vs, rfl, n, h, rr⟩ := hd.tup
    exact call_tuple_of pins s σ H _ us Q I rs ⟨a, vs, rfl, .inr ⟨.inl h, q.s (.tup n h rr)⟩⟩
  | _ => cases e
theorem ok_sum (hc : X.calm = true) : CallR X (.builtin "sum") (c1 .sum) := by
  rintro pins s σ H xs us Q I rs ⟨x, rfl, O, d, r, hO, hd, e, q⟩
  cases d with
  | lst ds =>
    obtain ⟨ns, en, rfl⟩ := Option.map_eq_some_iff.mp e
    obtain ⟨a, vs, rfl, h, rr⟩ := hd
    have ev := rr.ints en
    subst ev
    exact cr_sum hc pins s σ H _ us Q I rs ⟨a, ns, rfl, .inl h, q.s (.int _)⟩
  | _ => cases e
theorem ok_all (hc : X.calm = true) : CallR X (.builtin "all") (c1 .all) := by
  rintro pins s σ H xs us Q I rs ⟨x, rfl, O, d, r, hO, hd, e, q⟩
  cases d with
  | lst ds =>
    obtain ⟨ns, en, rfl⟩ := Option.map_eq_some_iff.mp e
    obtain ⟨a, vs, rfl, h, rr⟩ := hd
    have ev := rr.bls en
    subst ev
    exact cr_all hc pins s σ H _ us Q I rs ⟨a, ns, rfl, .inl h, q.s (.bl _)⟩
  | _ => cases e
theorem ok_abs : CallR X (.builtin "abs") (c1 .abs) := by
  rintro pins s σ H xs us Q I rs ⟨x, rfl, O, d, r, hO, hd, e, q⟩
  cases d with
  | int i =>
    cases e
    exact call_abs pins s σ H _ us Q I rs ⟨i, by rw [hd.int], q.s (.int _)⟩
  | _ => cases e
theorem ok_int : CallR X (.type "int") (c1 .int) := by
  rintro pins s σ H xs us Q I rs ⟨x, rfl, O, d, r, hO, hd, e, q⟩
  cases d with
  | int i =>
    cases e
    exact call_int1 pins s σ H _ us Q I rs (.inl ⟨i, by rw [hd.int], q.s (.int _)⟩)
  | bl b =>
    cases e
    exact call_int1 pins s σ H _ us Q I rs (.inr ⟨b, by rw [hd.bl], q.s (.int _)⟩)
  | _ => cases e
def isNonD : D → Bool
  | .non => true
  | _ => false
theorem isN_val {H : Hp} {O : OS} {v : V} {d : D} (hd : RpT H O v d) : decide (v = .non) = isNonD d := by
  cases d with
  | non => rw [hd.non]; rfl
  | bl b => rw [hd.bl]; rfl
  | int b => rw [hd.int]; rfl
  | str b => rw [hd.str]; rfl
  | tup ds => obtain ⟨a, vs, rfl, _⟩ := hd.tup; rfl
  | lst ds => obtain ⟨a, vs, rfl, _⟩ := hd; rfl
  | dic ds => rcases hd with ⟨a, vs, rfl, _⟩ | ⟨a, vs, rfl, _⟩ <;> rfl
  | exc c b => cases (show Rp H O v (.exc c b) from hd)
theorem ok_isN {x : V} {H : Hp} {Q : VK} (h : q1 .isNone x H Q) : Q (.bl (decide (x = .non))) H := by
  obtain ⟨O, d, r, hO, hd, e, q⟩ := h
  rw [isN_val hd]
  cases d <;> (cases e; exact q.s (.bl _))
theorem ok_notN {x : V} {H : Hp} {Q : VK} (h : q1 .notNone x H Q) : Q (.bl (!decide (x = .non))) H := by
  obtain ⟨O, d, r, hO, hd, e, q⟩ := h
  rw [isN_val hd]
  cases d <;> (cases e; exact q.s (.bl _))

/-! ### isinstance -/
def Kd.nm : Kd → String
  | .str => "str" | .tup => "tuple" | .lst => "list" | .dic => "dict" | .int => "int" | .bl => "bool"
def tyN : D → String
  | .non => "NoneType" | .str _ => "str" | .tup _ => "tuple" | .lst _ => "list" | .dic _ => "dict" | .int _ => "int" | .bl _ => "bool" | .exc _ _ => ""
theorem kit_non (k : Kd) : kitB "NoneType" k.nm = some (false) := by
  cases k <;> decide +kernel
theorem kit_bl (k : Kd) : kitB "bool" k.nm = some (k == .bl || k == .int) := by
  cases k <;> decide +kernel
theorem kit_int (k : Kd) : kitB "int" k.nm = some (k == .int) := by
  cases k <;> decide +kernel
theorem kit_str (k : Kd) : kitB "str" k.nm = some (k == .str) := by
  cases k <;> decide +kernel
theorem kit_tup (k : Kd) : kitB "tuple" k.nm = some (k == .tup) := by
  cases k <;> decide +kernel
theorem kit_lst (k : Kd) : kitB "list" k.nm = some (k == .lst) := by
  cases k <;> decide +kernel
theorem kit_dic (k : Kd) : kitB "dict" k.nm = some (k == .dic) := by
  cases k <;> decide +kernel
theorem kit_all (k : Kd) (d : D) (b : Bool) (h : kdOf k d = some b) (hx : ∀ c e, d ≠ .exc c e) : kitB (tyN d) k.nm = some b := by
  cases d with
  | exc c e => exact absurd rfl (hx c e)
  | non => cases h; exact kit_non k
  | bl x => cases h; exact kit_bl k
  | int x => cases h; exact kit_int k
  | str x => cases h; exact kit_str k
  | tup x => cases h; exact kit_tup k
  | lst x => cases h; exact kit_lst k
  | dic x =>
    simp only [kdOf] at h
    split at h
    · cases h; exact kit_dic k
    · cases h
theorem tyx_of {H : Hp} {O : OS} {v : V} {d : D} {K : PySem.W.Frag} {k : Kd} {b : Bool} (hk : kdOf k d = some b) (hd : RpT H O v d) : TyX K H v (.type (tyN d)) ∧ ∀ c e, d ≠ .exc c e := by
  cases d with
  | non => rw [hd.non]; exact ⟨.base .non, fun _ _ z => nomatch z⟩
  | bl b => rw [hd.bl]; exact ⟨.base (.bl b), fun _ _ z => nomatch z⟩
  | int b => rw [hd.int]; exact ⟨.base (.int b), fun _ _ z => nomatch z⟩
  | str b => rw [hd.str]; exact ⟨.base (.str b), fun _ _ z => nomatch z⟩
  | tup ds =>
    obtain ⟨a, vs, rfl, _, h, _⟩ := hd.tup
    refine ⟨?_, fun _ _ z => nomatch z⟩
    rcases h with h | ⟨o, h⟩
    · exact .base (.tup h)
    · exact .fTuple h
  | lst ds =>
    obtain ⟨a, vs, rfl, h, _⟩ := hd
    refine ⟨?_, fun _ _ z => nomatch z⟩
    rcases h with h | ⟨o, h⟩
    · exact .base (.lst h)
    · exact .base (.frz h)
  | dic ds =>
    refine ⟨?_, fun _ _ z => nomatch z⟩
    simp only [kdOf] at hk
    split at hk
    · rename_i hs
      obtain ⟨a, kv, rfl, h, _⟩ := strs_of hd hs
      rcases h with h | ⟨o, h⟩
      · exact .base (.dK h)
      · exact .fDict h
    · cases hk
  | exc c b => cases (show Rp H O v (.exc c b) from hd)
theorem ok_isi (k : Kd) : CallR X (.builtin "isinstance") (fun xs H Q => ∃ x, xs = [x, .ty k.nm] ∧ q1 (.isK k) x H Q) := by
  rintro pins s σ H xs us Q I rs ⟨x, rfl, O, d, r, hO, hd, e, q⟩
  obtain ⟨b, eb, rfl⟩ := Option.map_eq_some_iff.mp e
  obtain ⟨ty, hx⟩ := tyx_of (K := X.K) eb hd
  exact call_isi pins s σ H _ us Q I rs ⟨x, .ty k.nm, .type (tyN d), .type k.nm, b, rfl, .ty _, ty, kit_ty (kit_all k d b eb hx), q.s (.bl _)⟩

/-! ### two values -/
theorem ok_add : OpR X (binaryOp .Add) (q2 .add) := by
  rintro pins s σ H x y v u Q I rx ry ⟨O, d, e, r, hO, hd, he, ho, q⟩
  cases d with
  | int i => cases e with
    | int j => cases ho; exact op_add pins s σ H x y v u Q I rx ry ⟨i, j, hd.int, he.int, q.s (.int _)⟩
    | _ => cases ho
  | str i => cases e with
    | str j =>
      simp only [op2, opAdd] at ho
      split at ho
      · cases ho
        exact op_add_str pins s σ H x y v u Q I rx ry ⟨i, j, hd.str, he.str, of_decide_eq_true (by assumption), q.s (.str _)⟩
      · cases ho
    | _ => cases ho
  | lst ds => cases e with
    | lst es =>
      simp only [op2, opAdd] at ho
      split at ho
      · rename_i hz
        cases ho
        obtain ⟨a, vs, rfl, h, rr⟩ := hd
        obtain ⟨b, ws, rfl, h', rr'⟩ := he
        have hz' := of_decide_eq_true hz
        cases rx
        cases ry
        obtain ⟨z1, its, n1, r1, g1⟩ := h.ok I.hok
        obtain ⟨z2, its2, n2, r2, g2⟩ := h'.ok I.hok
        have l1 := r1.length
        have l2 := r2.length
        have m1 := rr.length
        have m2 := rr'.length
        refine PySem.P.add_list g1 g2 ?_ (by rw [List.size_toArray, List.size_toArray]; omega)
        have ea : its.toArray ++ its2.toArray = (its ++ its2).toArray := by simp
        rw [ea]
        exact ⟨.ref _, _, I.lnew (t' := s.toks) (r1.append r2) (by rw [List.length_append]; omega), rfl, q.l (rr.app rr') _ I.fresh⟩
      · cases ho
    | _ => cases ho
  | tup ds => cases e with
    | tup es =>
      simp only [op2, opAdd] at ho
      split at ho
      · rename_i hz
        cases ho
        obtain ⟨a, vs, rfl, n, h, rr⟩ := hd.tup
        obtain ⟨b, ws, rfl, n', h', rr'⟩ := he.tup
        have hz' := of_decide_eq_true hz
        have m1 := rr.length
        have m2 := rr'.length
        refine op_catA pins s σ H _ _ v u Q I rx ry ⟨a, b, vs, ws, rfl, rfl, .inl h, .inl h', by omega, fun e => ?_, fun _ e => ?_, fun _ _ => q.t (rr.app rr') hO⟩
        · subst e; cases rr; exact q.s (.tup n' h' rr')
        · subst e; cases rr'; rw [List.append_nil] at q; exact q.s (.tup n h rr)
      · cases ho
    | _ => cases ho
  | _ => cases ho
theorem int2 {H : Hp} {O : OS} {x y : V} {d e : D} {r : Val} {f : Int → Int → Option Val} (hd : RpT H O x d) (he : RpT H O y e) (ho : onInts f d e = some r) :
    ∃ i j, x = .int i ∧ y = .int j ∧ f i j = some r := by
  cases d with
  | int i => cases e with
    | int j => exact ⟨i, j, hd.int, he.int, ho⟩
    | _ => cases ho
  | _ => cases ho
theorem ok_sub : OpR X (binaryOp .Sub) (q2 .sub) := by
  rintro pins s σ H x y v u Q I rx ry ⟨O, d, e, r, hO, hd, he, ho, q⟩
  obtain ⟨i, j, rfl, rfl, e1⟩ := int2 hd he ho
  cases e1
  exact op_sub pins s σ H _ _ v u Q I rx ry ⟨i, j, rfl, rfl, q.s (.int _)⟩
theorem mulOk_ok {i j : Int} (h : mulOk i j = true) : IntMulOk i j := by
  unfold mulOk at h
  simp only [Bool.or_eq_true, Bool.and_eq_true, decide_eq_true_eq] at h
  rcases h with (h | h) | h
  · exact CMul.ok (.inl h)
  · exact CMul.ok (.inr h)
  · have b : ∀ x : Int, Builtin.Int.intBits x ≤ x.natAbs.log2 + 1 := fun x => by
      unfold Builtin.Int.intBits; split <;> omega
    have h1 := b i
    have h2 := b j
    have e : bitsLine = 134217728 := by decide
    intro z
    have z2 := (Bool.and_eq_true _ _ ▸ z).2
    unfold Builtin.Int.intTooBig at z2
    have z3 := of_decide_eq_true z2
    rw [e] at z3
    omega
theorem repD_flat (n : Nat) (xs : List D) : repD n xs = (List.replicate n xs).flatten := by
  induction n with
  | zero => rfl
  | succ n ih => rw [repD, ih, List.replicate_succ, List.flatten_cons]
theorem rps_rep {H : Hp} {O : OS} {vs : List V} {ds : List D} (r : Rps H O vs ds) : ∀ n : Nat, Rps H O (List.replicate n vs).flatten (List.replicate n ds).flatten
  | 0 => .nil
  | n + 1 => by rw [List.replicate_succ, List.replicate_succ, List.flatten_cons, List.flatten_cons]; exact r.app (rps_rep r n)
/-- tuple * 1, tuple * 0 -/
theorem tup_mul1 (l : Addr) (is : Array Value) (n : Nat) (dd : Option Addr) (sl : Array (Option Value)) (u : Tok) :
    Meets (Builtin.«tuple.__mul__» ⟨[.ref l, .int 1 u], []⟩) (fun _ R s => s.heap.get? l = some { cls := .type "tuple", dict := dd, data := .seq is n, slots := sl } ∧ R (.ok (.ret (Value.ref l))) s) :=
  .of_wp fun prog w A R s h => by
    obtain ⟨hp, g, d, tk, os⟩ := s
    obtain ⟨hl, h⟩ := h
    have f1 := AutoSeq1.idx_int
    have c1 : (is.isEmpty || (1 : Int) == 1) = true := by simp
    wp_walk using wpAny_loadPart' hl
    repeat (first
      | (refine wpAny_ite_false (decide_eq_false (by decide)) ?_; wp_walk using wpAny_loadPart' hl)
      | (refine wpAny_ite_true (decide_eq_true c1) ?_; wp_walk using wpAny_loadPart' hl))
    exact ⟨_, rfl, h⟩
theorem tup_mul0 (l : Addr) (is : Array Value) (n : Nat) (dd : Option Addr) (sl : Array (Option Value)) (u : Tok) (c1 : (is.isEmpty || (0 : Int) == 1) = false) :
    Meets (Builtin.«tuple.__mul__» ⟨[.ref l, .int 0 u], []⟩) (fun _ R s => s.heap.get? l = some { cls := .type "tuple", dict := dd, data := .seq is n, slots := sl } ∧
      R (.ok (.ret (Value.ref s.heap.objs.size))) { s with heap := s.heap.push { cls := Value.type "tuple", data := Data.seq #[] }, toks := s.toks }) :=
  .of_wp fun prog w A R s h => by
    obtain ⟨hp, g, d, tk, os⟩ := s
    obtain ⟨hl, h⟩ := h
    have f1 := AutoSeq1.idx_int
    wp_walk using wpAny_loadPart' hl
    repeat (first
      | (refine wpAny_ite_false (decide_eq_false (by decide)) ?_; wp_walk using wpAny_loadPart' hl)
      | (refine wpAny_ite_false (decide_eq_false (by rw [c1]; decide)) ?_; wp_walk using wpAny_loadPart' hl)
      | (refine wpAny_ite_true (decide_eq_true (by simp)) ?_; wp_walk using wpAny_loadPart' hl))
    exact ⟨_, rfl, h⟩
def rRep01 (K : PySem.W.Frag) : R2 := fun x y H Q => ∃ l k xs, x = .ref l ∧ y = .int k ∧ SqT K H l xs ∧ xs ≠ [] ∧ ((k = 1 ∧ Q (.ref l) H) ∨ (k = 0 ∧ ∀ p, H p = none → Q (.ref p) (upd H p (.tup []))))
theorem op_rep01 : OpR X (binaryOp .Mult) (rRep01 X.K) := by
  intro pins s σ H x y v u Q I rx ry h
  obtain ⟨l, k, xs, rfl, rfl, hT, hne, h⟩ := h
  cases rx
  obtain ⟨t, rfl⟩ := ry
  obtain ⟨its, r, ⟨⟨cls, dd, data, sl⟩, ho, hc, n, hd⟩, hs⟩ := I.tuple hT
  simp only at hc hd
  subst hc hd
  have hle := r.length
  refine wpAny_binaryOp_repeat_ref (T := "tuple") (U := "int") (by decide) ⟨_, ho, rfl⟩ (fun s' => typeIs_int s' k t) noFill_tuple_mul PySem.F.fills_int_mul PySem.F.slot_int_rmul repeat_tuple PySem.F.slot_int_index.lookup
    (call_meets PySem.F.slot_int_rmul (typeIs_int s k t) PySem.F.entry_int_rmul (PySem.F.args_int_rmul_2 _ _) (int_rmul_tuple k t l its.toArray n dd sl) ⟨ho, rfl, ⟨_, ho, rfl⟩, ?_⟩)
  rcases h with ⟨rfl, q⟩ | ⟨rfl, q⟩
  · exact call_meets PySem.F.slot_tuple_mul ⟨_, ho, rfl⟩ PySem.F.entry_tuple_mul (PySem.F.args_tuple_mul_2 _ _) (tup_mul1 l its.toArray n dd sl t) ⟨ho, .ref l, H, I, rfl, q⟩
  · have hi : (its.toArray.isEmpty || (0 : Int) == 1) = false := by
      cases its with
      | nil => exact absurd (List.eq_nil_of_length_eq_zero hle) hne
      | cons a b => rfl
    refine call_meets PySem.F.slot_tuple_mul ⟨_, ho, rfl⟩ PySem.F.entry_tuple_mul (PySem.F.args_tuple_mul_2 _ _) (tup_mul0 l its.toArray n dd sl t hi) ⟨ho, ?_⟩
    refine ⟨.ref s.heap.objs.size, _, I.laid (t' := s.toks) (o := .tup []) (fun b ob q => Heap.get?_push_of_some _ q) (Nat.le_refl _) ?_, rfl, q _ (I.hok.fresh (Nat.le_refl _))⟩
    exact ⟨by decide, [], .nil, IsTup.new _ _⟩
theorem ok_mul : OpR X (binaryOp .Mult) (q2 .mul) := by
  rintro pins s σ H x y v u Q I rx ry ⟨O, d, e, r, hO, hd, he, ho, q⟩
  cases d with
  | int i => cases e with
    | int j =>
      simp only [op2, opMul] at ho
      split at ho
      · cases ho
        exact opI (C := fun i j => mulOk i j = true) (fun _ _ _ _ _ _ _ hc q => mul_int q (mulOk_ok hc)) pins s σ H _ _ v u Q I rx ry ⟨i, j, hd.int, he.int, by assumption, q.s (.int _)⟩
      · cases ho
    | _ => cases ho
  | tup ds => cases e with
    | int j =>
      simp only [op2, opMul] at ho
      split at ho
      · rename_i hc
        cases ho
        simp only [Bool.and_eq_true, decide_eq_true_eq] at hc
        obtain ⟨a, vs, rfl, n, h, rr⟩ := hd.tup
        have hl := rr.length
        rw [repD_flat] at q
        have hne : vs ≠ [] := fun z => hc.1.1.1 (by rw [z] at hl; exact List.eq_nil_of_length_eq_zero hl.symm)
        by_cases h2 : 2 ≤ j
        · exact op_repT pins s σ H _ _ v u Q I rx ry ⟨a, j, vs, rfl, he.int, .inl h, hne, h2, by omega, by omega, q.t (rps_rep rr _) hO⟩
        · by_cases h1 : j = 1
          · subst h1
            have e : (List.replicate (Int.toNat 1) ds).flatten = ds := by simp
            rw [e] at q
            exact op_rep01 pins s σ H _ _ v u Q I rx ry ⟨a, 1, vs, rfl, he.int, .inl h, hne, .inl ⟨rfl, q.s (.tup n h rr)⟩⟩
          · have h0 : j = 0 := by omega
            subst h0
            exact op_rep01 pins s σ H _ _ v u Q I rx ry ⟨a, 0, vs, rfl, he.int, .inl h, hne, .inr ⟨rfl, q.t (ds := []) .nil hO⟩⟩
      · cases ho
    | _ => cases ho
  | _ => cases ho
theorem ok_fdiv : OpR X (binaryOp .FloorDiv) (q2 .fdiv) := by
  rintro pins s σ H x y v u Q I rx ry ⟨O, d, e, r, hO, hd, he, ho, q⟩
  obtain ⟨i, j, rfl, rfl, e1⟩ := int2 (f := fun i j => if divOk j then some (.sh, .int (i / j)) else none) hd he ho
  split at e1
  · rename_i hc
    cases e1
    simp only [divOk, Bool.and_eq_true, decide_eq_true_eq] at hc
    exact op_fdivW pins s σ H _ _ v u Q I rx ry ⟨i, j, rfl, rfl, hc, q.s (.int _)⟩
  · cases e1
theorem ok_mod : OpR X (binaryOp .Mod) (q2 .mod) := by
  rintro pins s σ H x y v u Q I rx ry ⟨O, d, e, r, hO, hd, he, ho, q⟩
  obtain ⟨i, j, rfl, rfl, e1⟩ := int2 (f := fun i j => if decide (0 < j) then some (.sh, .int (i % j)) else none) hd he ho
  split at e1
  · rename_i hc
    cases e1
    exact op_mod pins s σ H _ _ v u Q I rx ry ⟨i, j, rfl, rfl, of_decide_eq_true hc, q.s (.int _)⟩
  · cases e1
theorem ok_pow : OpR X (binaryOp .Pow) (q2 .pow) := by
  rintro pins s σ H x y v u Q I rx ry ⟨O, d, e, r, hO, hd, he, ho, q⟩
  obtain ⟨i, j, rfl, rfl, e1⟩ := int2 (f := fun i j => if powOk i j then some (.sh, .int (i ^ j.toNat)) else none) hd he ho
  split at e1
  · rename_i hc
    cases e1
    simp only [powOk, Bool.and_eq_true, decide_eq_true_eq] at hc
    exact op_pow pins s σ H _ _ v u Q I rx ry ⟨i, j, rfl, rfl, ⟨hc.1.1, hc.1.2, hc.2⟩, q.s (.int _)⟩
  · cases e1
theorem eq_reads {H : Hp} {O : OS} {x y : V} {d e : D} {K : PySem.W.Frag} (hd : RpT H O x d) (he : RpT H O y e) (h : (d.eqOk && e.eqOk) = true) :
    Dp K H x d.toP ∧ Dp K H y e.toP ∧ d.toP.canLay0 = true ∧ e.toP.canLay0 = true ∧ d.toP.depth ≤ 150 ∧ e.toP.depth ≤ 150 := by
  simp only [D.eqOk, Bool.and_eq_true, decide_eq_true_eq] at h
  exact ⟨hd.dp h.1.1, he.dp h.2.1, h.1.1, h.2.1, h.1.2, h.2.2⟩
theorem opEq_cases {d e : D} {f : Bool → Bool} {r : Val} (h : opEq d e f = some r) : (∃ x y, d = .dic x ∧ e = .dic y ∧ dicsOk x y = true ∧ r = (.sh, .bl (f (dicsEq x y)))) ∨ ((d.eqOk && e.eqOk) = true ∧ r = (.sh, .bl (f (d.eq e)))) := by
  unfold opEq at h
  split at h
  · split at h
    · cases h; exact .inl ⟨_, _, rfl, rfl, by assumption, rfl⟩
    · cases h
  · split at h
    · cases h; exact .inr ⟨by assumption, rfl⟩
    · cases h
theorem kD_eq (k k' : Key) : (kD k).eq (kD k') = decide (k = k') := by
  cases k <;> cases k' <;> simp [kD, D.eq, D.toP, PyData.eqv] <;> exact Bool.beq_eq_decide_eq _ _
theorem Rpk.get {H : Hp} {O : OS} {kv : List (Key × V)} {ds : List (D × D)} (r : Rpk H O kv ds) (k : Key) : (dget ds (kD k) = none ∧ valV kv k = none) ∨ ∃ d v, dget ds (kD k) = some d ∧ valV kv k = some v ∧ Rp H O v d := by
  induction kv generalizing ds with
  | nil => cases r; exact .inl ⟨rfl, rfl⟩
  | cons p kv ih => cases r with
    | @cons k1 v1 _ d1 ds1 h r =>
      rw [dget, kD_eq]
      by_cases e : k1 = k
      · rw [decide_eq_true e]; exact .inr ⟨d1, v1, rfl, valV_pos e, h⟩
      · rw [decide_eq_false e, valV_neg (p := (k1, v1)) e]; exact ih r
theorem hits_rp {pins : List (Addr × Obj)} {s : Shared} {σ : L2.St} {H : Hp} {O : OS} (I : L2.Inv X pins σ H s) {A : Around} (hA : A.units + 150 < cLine) {kb : List (Key × V)} {es : List (D × D)} {vb : List (Key × Value)} (rb : Rpk H O kb es) (wb : KV kb vb)
    (hb : ∀ k d, dget es k = some d → d.eqOk = true) : ∀ {ka : List (Key × V)} {ds : List (D × D)} {va : List (Key × Value)}, Rpk H O ka ds → KV ka va → (∀ p ∈ ds, p.2.eqOk = true) →
      PySem.W.KeqHits A s vb va (ds.all fun kv => match dget es kv.1 with | some v => kv.2.eq v | none => false) := by
  intro ka
  induction ka with
  | nil => intro ds va r w _; cases r; cases w; exact .nil
  | cons p ka ih =>
    intro ds va r w hd
    cases r with
    | @cons k1 v1 _ d1 ds1 h1 r =>
      unfold KV at w
      cases w with
      | @cons _ q _ qs hq wt =>
        obtain ⟨q1, q2⟩ := q
        obtain ⟨hk, hv⟩ := hq
        simp only at hk hv
        subst hk
        rw [List.all_cons]
        rcases rb.get k1 with ⟨e1, e2⟩ | ⟨d, v, e1, e2, rv⟩
        · simp only [e1, Bool.false_and]
          have := wb.val k1
          rw [e2] at this
          refine .miss ?_
          cases hq : valueAt vb k1 with
          | none => rfl
          | some _ => rw [hq] at this; exact (show False from this).elim
        · simp only [e1]
          have hvb := wb.val k1
          rw [e2] at hvb
          obtain ⟨w', hw, rw'⟩ := RelO.some_of hvb
          have o1 := hd _ (.head _)
          have o2 := hb _ _ e1
          simp only [D.eqOk, Bool.and_eq_true, decide_eq_true_eq] at o1 o2
          obtain ⟨as, r1⟩ := Dp.reads I _ v1 _ (Rp.dp h1 o1.1) hv
          obtain ⟨bs, r2⟩ := Dp.reads I _ v _ (Rp.dp rv o2.1) rw'
          exact .hit hw (SeqAt.eqAt_reads _ _ A s _ _ _ _ r1 r2 o1.1 o2.1 (by omega)) (ih r wt fun p hp => hd p (.tail _ hp))
theorem dget_mem {es : List (D × D)} {k d : D} (h : dget es k = some d) : ∃ p ∈ es, p.2 = d := by
  induction es with
  | nil => cases h
  | cons p es ih =>
    obtain ⟨a, b⟩ := p
    rw [dget] at h
    split at h
    · cases h; exact ⟨_, .head _, rfl⟩
    · obtain ⟨p, hp, e⟩ := ih h; exact ⟨p, .tail _ hp, e⟩
theorem dic_eq (hu : X.A.units + 200 < cLine) {pins : List (Addr × Obj)} {s : Shared} {σ : L2.St} {H : Hp} {O : OS} {x y : V} {v u : Value} {ds es : List (D × D)} (I : L2.Inv X pins σ H s) (rx : L2.RelV x v) (ry : L2.RelV y u) (hd : RpT H O x (.dic ds)) (he : RpT H O y (.dic es)) (hk : dicsOk ds es = true) :
    (∀ Q : Value → Shared → Prop, Q (.bool (dicsEq ds es)) s → wpAny (model X.prog X.w) X.A (compareOp .Eq v u) Q X.xe s) ∧ (∀ Q : Value → Shared → Prop, Q (.bool (!dicsEq ds es)) s → wpAny (model X.prog X.w) X.A (compareOp .NotEq v u) Q X.xe s) := by
  simp only [dicsOk, Bool.and_eq_true] at hk
  obtain ⟨a, ka, rfl, ha, ra⟩ := strs_of hd hk.1.1
  obtain ⟨b, kb, rfl, hb, rb⟩ := strs_of he hk.2.1
  cases rx
  cases ry
  obtain ⟨_, ya, va, wa, da⟩ := dk_rd I.hok ha
  obtain ⟨_, yb, vb, wb, db⟩ := dk_rd I.hok hb
  simp only [List.all_eq_true] at hk
  have hits := hits_rp I (A := X.A.in1) (by show X.A.units + 1 + 150 < cLine; omega) rb wb (fun k d h => by obtain ⟨p, hp, rfl⟩ := dget_mem h; exact hk.2.2 p hp) ra wa fun p hp => hk.1.2 p hp
  have el : (va.length == vb.length && ds.all fun kv => match dget es kv.1 with | some v => kv.2.eq v | none => false) = dicsEq ds es := by
    unfold dicsEq
    rw [← wa.length, ← wb.length, ra.length, rb.length]
    try rfl
  refine ⟨fun Q q => PySem.W.keq_eq ya yb da db (by omega) (fun _ => hits) ?_, fun Q q => PySem.W.keq_ne ya yb da db (by omega) (fun _ => hits) ?_⟩
  · rw [el]; exact q
  · rw [el]; exact q
theorem ok_eq (hu : X.A.units + 200 < cLine) : OpR X (compareOp .Eq) (q2 .eq) := by
  rintro pins s σ H x y v u Q I rx ry ⟨O, d, e, r, hO, hd, he, ho, q⟩
  rcases opEq_cases (show opEq d e id = some r from ho) with ⟨ds, es, rfl, rfl, hk, rfl⟩ | ⟨hc, rfl⟩
  · exact (dic_eq hu I rx ry hd he hk).1 _ ⟨.bl _, H, I, rfl, q.s (.bl _)⟩
  · obtain ⟨p1, p2, l1, l2, k1, k2⟩ := eq_reads (K := X.K) hd he hc
    obtain ⟨as, r1⟩ := Dp.reads I _ x v p1 rx
    obtain ⟨bs, r2⟩ := Dp.reads I _ y u p2 ry
    exact SeqAt.compareEq_reads r1 r2 l1 l2 (by omega) ⟨.bl _, H, I, rfl, q.s (.bl _)⟩
theorem ok_ne (hu : X.A.units + 200 < cLine) : OpR X (compareOp .NotEq) (q2 .ne) := by
  rintro pins s σ H x y v u Q I rx ry ⟨O, d, e, r, hO, hd, he, ho, q⟩
  rcases opEq_cases (show opEq d e not = some r from ho) with ⟨ds, es, rfl, rfl, hk, rfl⟩ | ⟨hc, rfl⟩
  · exact (dic_eq hu I rx ry hd he hk).2 _ ⟨.bl _, H, I, rfl, q.s (.bl _)⟩
  · obtain ⟨p1, p2, l1, l2, k1, k2⟩ := eq_reads (K := X.K) hd he hc
    obtain ⟨as, r1⟩ := Dp.reads I _ x v p1 rx
    obtain ⟨bs, r2⟩ := Dp.reads I _ y u p2 ry
    exact SeqAt.compareNe_reads r1 r2 l1 l2 (by omega) ⟨.bl _, H, I, rfl, q.s (.bl _)⟩
theorem ok_lt : OpR X (compareOp .Lt) (q2 .lt) := by
  rintro pins s σ H x y v u Q I rx ry ⟨O, d, e, r, hO, hd, he, ho, q⟩
  obtain ⟨i, j, rfl, rfl, e1⟩ := int2 (f := fun i j => some (.sh, .bl (decide (i < j)))) hd he ho
  cases e1
  exact op_lt pins s σ H _ _ v u Q I rx ry ⟨i, j, rfl, rfl, q.s (.bl _)⟩
theorem ok_le : OpR X (compareOp .LtE) (q2 .le) := by
  rintro pins s σ H x y v u Q I rx ry ⟨O, d, e, r, hO, hd, he, ho, q⟩
  obtain ⟨i, j, rfl, rfl, e1⟩ := int2 (f := fun i j => some (.sh, .bl (decide (i ≤ j)))) hd he ho
  cases e1
  exact op_le pins s σ H _ _ v u Q I rx ry ⟨i, j, rfl, rfl, q.s (.bl _)⟩
theorem ok_gt : OpR X (compareOp .Gt) (q2 .gt) := by
  rintro pins s σ H x y v u Q I rx ry ⟨O, d, e, r, hO, hd, he, ho, q⟩
  obtain ⟨i, j, rfl, rfl, e1⟩ := int2 (f := fun i j => some (.sh, .bl (decide (j < i)))) hd he ho
  cases e1
  exact op_gt pins s σ H _ _ v u Q I rx ry ⟨i, j, rfl, rfl, q.s (.bl _)⟩
theorem lexGe_at : ∀ (ns ms : List Int) (i : Nat), i ≤ min ns.length ms.length → Ob.lexAt (fun j => decide (ns.getD j 0 = ms.getD j 0)) (fun j => decide (ms.getD j 0 ≤ ns.getD j 0)) (decide (ms.length ≤ ns.length)) i (min ns.length ms.length - i) = lexGe (ns.drop i) (ms.drop i) := by
  intro ns ms i hi
  generalize hk : min ns.length ms.length - i = k
  induction k generalizing i with
  | zero =>
    rw [Ob.lexAt_zero]
    by_cases h1 : i < ns.length
    · have h2 : ms.length ≤ i := by omega
      rw [List.drop_of_length_le h2, List.drop_eq_getElem_cons h1]
      show decide (ms.length ≤ ns.length) = true
      exact decide_eq_true (by omega)
    · rw [List.drop_of_length_le (show ns.length ≤ i by omega)]
      by_cases h2 : i < ms.length
      · rw [List.drop_eq_getElem_cons h2]
        show decide (ms.length ≤ ns.length) = false
        exact decide_eq_false (by omega)
      · rw [List.drop_of_length_le (show ms.length ≤ i by omega)]
        show decide (ms.length ≤ ns.length) = true
        exact decide_eq_true (by omega)
  | succ k ih =>
    have h1 : i < ns.length := by omega
    have h2 : i < ms.length := by omega
    rw [Ob.lexAt_succ, ih (i + 1) (by omega) (by omega), List.drop_eq_getElem_cons h1, List.drop_eq_getElem_cons h2]
    simp [lexGe, List.getD, h1, h2]
theorem ok_ge (hu : X.A.units < cLine) : OpR X (compareOp .GtE) (q2 .ge) := by
  rintro pins s σ H x y v u Q I rx ry ⟨O, d, e, r, hO, hd, he, ho, q⟩
  cases d with
  | int i => cases e with
    | int j => cases ho; exact op_ge pins s σ H _ _ v u Q I rx ry ⟨i, j, hd.int, he.int, q.s (.bl _)⟩
    | _ => cases ho
  | tup ds => cases e with
    | tup es =>
      obtain ⟨ns, e1, ho⟩ := Option.bind_eq_some_iff.mp ho
      obtain ⟨ms, e2, rfl⟩ := Option.map_eq_some_iff.mp ho
      obtain ⟨a, vs, rfl, n, h, rr⟩ := hd.tup
      obtain ⟨b, ws, rfl, n', h', rr'⟩ := he.tup
      have ev := rr.ints e1
      have ew := rr'.ints e2
      subst ev ew
      cases rx
      cases ry
      obtain ⟨its, r1, p1, _⟩ := I.tuple (a := a) (.inl h)
      obtain ⟨its2, r2, p2, _⟩ := I.tuple (a := b) (.inl h')
      have i1 : IntsAre its ns := Vals.ints r1
      have i2 : IntsAre its2 ms := Vals.ints r2
      have z1 : its.toArray.size = ns.length := by rw [List.size_toArray]; exact i1.length
      have z2 : its2.toArray.size = ms.length := by rw [List.size_toArray]; exact i2.length
      have at1 : ∀ j (h1 : j < its.toArray.size), ∃ t, its.toArray[j] = .int (ns.getD j 0) t := fun j h1 => IntsAre.int_at i1 _ _ (by simp at h1; simp [h1])
      have at2 : ∀ j (h1 : j < its2.toArray.size), ∃ t, its2.toArray[j] = .int (ms.getD j 0) t := fun j h1 => IntsAre.int_at i2 _ _ (by simp at h1; simp [h1])
      have G := Ob.RcOp.tuples_ge (A := X.A) (s := s) (e := fun j => decide (ns.getD j 0 = ms.getD j 0)) (r := fun j => decide (ms.getD j 0 ≤ ns.getD j 0)) p1 p2 hu (fun j h1 h2 => by
        obtain ⟨t, et⟩ := at1 j h1
        obtain ⟨t', et'⟩ := at2 j h2
        rw [et, et', show decide (ns.getD j 0 = ms.getD j 0) = (ns.getD j 0 == ms.getD j 0) from (Bool.beq_eq_decide_eq _ _).symm]
        exact SeqAt.EqAt.int_int _ _ _ _) (fun j h1 h2 _ => by
        obtain ⟨t, et⟩ := at1 j h1
        obtain ⟨t', et'⟩ := at2 j h2
        rw [et, et']
        exact Ob.RcOp.ge_int _ _ _ _)
      rw [z1, z2] at G
      have L := lexGe_at ns ms 0 (Nat.zero_le _)
      rw [Nat.sub_zero, List.drop_zero, List.drop_zero] at L
      rw [L] at G
      exact G X.prog X.w X.xe (EP X pins σ Q) ⟨.bl _, H, I, rfl, q.s (.bl _)⟩
    | _ => cases ho
  | _ => cases ho
theorem toPs_map (ds : List D) : D.toPs ds = ds.map D.toP := by
  induction ds with
  | nil => rfl
  | cons d r ih => simp only [D.toPs, List.map_cons, ih]
theorem any_toP (ds : List D) (a : D) : (D.toPs ds).any (fun z => PyData.eqv z a.toP) = ds.any fun z => z.eq a := by
  rw [toPs_map, List.any_map]; rfl
theorem in_reads {H : Hp} {O : OS} {x y : V} {d : D} {es : List D} {K : PySem.W.Frag} {A : Around} (hu : A.units + 200 < cLine) (hd : RpT H O x d) (he : RpT H O y (.lst es)) (h : (d.eqOk && (D.lst es).eqOk) = true) :
    Dp K H x d.toP ∧ Dp K H y (.list (D.toPs es)) ∧ d.toP.canLay0 = true ∧ PyData.canLayAll0 (D.toPs es) = true ∧ A.units + 1 + min (PyData.depthAll (D.toPs es)) d.toP.depth < cLine := by
  obtain ⟨p1, p2, l1, l2, k1, k2⟩ := eq_reads (K := K) hd he h
  exact ⟨p1, p2, l1, l2, by omega⟩
theorem dget_at {H : Hp} {O : OS} {a : Addr} {kv : List (Key × V)} {ds : List (D × D)} (h : Rd H a (.dK kv)) (rr : Rpk H O kv ds) (x : Str) : ∃ o : Option V, DGet H a (.str x) o ∧ o.isSome = (dget ds (.str x)).isSome ∧ ∀ d, dget ds (.str x) = some d → ∃ v, o = some v ∧ Rp H O v d := by
  refine ⟨valV kv (.inr x), .inl ⟨kv, .inr x, h, rfl, rfl⟩, ?_⟩
  rcases rr.get (.inr x) with ⟨e1, e2⟩ | ⟨d, v, e1, e2, rv⟩
  · have e1' : dget ds (.str x) = none := e1
    exact ⟨by rw [e1', e2]; rfl, fun d z => by rw [e1'] at z; cases z⟩
  · have e1' : dget ds (.str x) = some d := e1
    exact ⟨by rw [e1', e2]; rfl, fun d' z => by rw [e1'] at z; cases z; exact ⟨v, e2, rv⟩⟩
/-! ### dicts with keys of texts and tuples -/
mutual
theorem nk_eq : ∀ (a b : D), a.kst = true → b.kst = true → a.eq b = decide (nk a = nk b)
  | .str x, .str y, _, _ => by
    show (x == y) = _
    rw [nk, nk, Bool.beq_eq_decide_eq]
    exact decide_eq_decide.mpr ⟨fun h => by rw [h], fun h => by cases h; rfl⟩
  | .str x, .tup ys, _, _ => by
    show false = _
    rw [nk, nk]; exact (decide_eq_false (fun z => nomatch z)).symm
  | .tup xs, .str y, _, _ => by
    show false = _
    rw [nk, nk]; exact (decide_eq_false (fun z => nomatch z)).symm
  | .tup xs, .tup ys, h, k => by
    show PyData.eqvAll (D.toPs xs) (D.toPs ys) = _
    rw [D.kst] at h k
    rw [nks_eq xs ys h k, nk, nk]
    exact decide_eq_decide.mpr ⟨fun h => by rw [h], fun h => NestedKey.tup.inj h⟩
  | .non, _, h, _ => by simp [D.kst] at h
  | .bl _, _, h, _ => by simp [D.kst] at h
  | .int _, _, h, _ => by simp [D.kst] at h
  | .lst _, _, h, _ => by simp [D.kst] at h
  | .dic _, _, h, _ => by simp [D.kst] at h
  | .exc _ _, _, h, _ => by simp [D.kst] at h
  | .str _, .non, _, h => by simp [D.kst] at h
  | .str _, .bl _, _, h => by simp [D.kst] at h
  | .str _, .int _, _, h => by simp [D.kst] at h
  | .str _, .lst _, _, h => by simp [D.kst] at h
  | .str _, .dic _, _, h => by simp [D.kst] at h
  | .str _, .exc _ _, _, h => by simp [D.kst] at h
  | .tup _, .non, _, h => by simp [D.kst] at h
  | .tup _, .bl _, _, h => by simp [D.kst] at h
  | .tup _, .int _, _, h => by simp [D.kst] at h
  | .tup _, .lst _, _, h => by simp [D.kst] at h
  | .tup _, .dic _, _, h => by simp [D.kst] at h
  | .tup _, .exc _ _, _, h => by simp [D.kst] at h
theorem nks_eq : ∀ (a b : List D), D.ksts a = true → D.ksts b = true → PyData.eqvAll (D.toPs a) (D.toPs b) = decide (nks a = nks b)
  | [], [], _, _ => by simp [D.toPs, nks, PyData.eqvAll]
  | [], _ :: _, _, _ => by simp [D.toPs, nks, PyData.eqvAll]
  | _ :: _, [], _, _ => by simp [D.toPs, nks, PyData.eqvAll]
  | a :: as, b :: bs, h, k => by
    simp only [D.ksts, Bool.and_eq_true] at h k
    have e1 : PyData.eqv a.toP b.toP = decide (nk a = nk b) := nk_eq a b h.1 k.1
    rw [D.toPs, D.toPs, PyData.eqvAll, e1, nks_eq as bs h.2 k.2, nks, nks, ← Bool.decide_and]
    exact decide_eq_decide.mpr ⟨fun h => by rw [h.1, h.2], fun h => List.cons.inj h⟩
end
theorem keyOk_st {ks : List D} (h : keyOk (.tup ks) = true) : (D.tup ks).kst = true := (Bool.and_eq_true _ _ ▸ h).1
theorem Rpn.get {H : Hp} {O : OS} {xs : List (NestedKey × Addr × Value)} {ds : List (D × D)} (r : Rpn H O xs ds) {ks : List D} (hk : keyOk (.tup ks) = true) :
    (dget ds (.tup ks) = none ∧ atKey xs (nk (.tup ks)) = none) ∨ ∃ b t, dget ds (.tup ks) = some (.bl t) ∧ atKey xs (nk (.tup ks)) = some (b, .bool t) := by
  induction xs generalizing ds with
  | nil => cases r; exact .inl ⟨rfl, rfl⟩
  | cons p xs ih => cases r with
    | @cons b ks' t _ ds1 h k r =>
      rw [dget, nk_eq _ _ (keyOk_st k) (keyOk_st hk)]
      unfold atKey
      rw [List.find?_cons]
      by_cases e : nk (.tup ks') = nk (.tup ks)
      · rw [decide_eq_true e]; exact .inr ⟨b, t, rfl, rfl⟩
      · rw [decide_eq_false e]; exact ih r
theorem Rpn.any {H : Hp} {O : OS} {xs : List (NestedKey × Addr × Value)} {ds : List (D × D)} (r : Rpn H O xs ds) {ks : List D} (hk : keyOk (.tup ks) = true) : (ds.any fun kv => kv.1.eq (.tup ks)) = (atKey xs (nk (.tup ks))).isSome := by
  induction xs generalizing ds with
  | nil => cases r; rfl
  | cons p xs ih => cases r with
    | @cons b ks' t _ ds1 h k r =>
      rw [List.any_cons, nk_eq _ _ (keyOk_st k) (keyOk_st hk), ih r]
      unfold atKey
      rw [List.find?_cons]
      by_cases e : nk (.tup ks') = nk (.tup ks)
      · rw [decide_eq_true e]; rfl
      · rw [decide_eq_false e, Bool.false_or]
theorem Rpn.map {H : Hp} {O : OS} {ks : List D} (hk : keyOk (.tup ks) = true) (t : Bool) : ∀ {xs : List (NestedKey × Addr × Value)} {ds : List (D × D)}, Rpn H O xs ds → Rpn H O (xs.map (putAt (nk (.tup ks)) (.bool t))) (ds.map fun kv => if kv.1.eq (.tup ks) then (kv.1, .bl t) else kv)
  | _, _, .nil => .nil
  | _, _, .cons h k r => by
    rw [List.map_cons, List.map_cons]
    unfold putAt
    simp only [nk_eq _ _ (keyOk_st k) (keyOk_st hk), decide_eq_true_eq]
    split
    · exact .cons h k (Rpn.map hk t r)
    · exact .cons h k (Rpn.map hk t r)
theorem Rpn.app {H : Hp} {O : OS} : ∀ {xs ys : List (NestedKey × Addr × Value)} {ds es : List (D × D)}, Rpn H O xs ds → Rpn H O ys es → Rpn H O (xs ++ ys) (ds ++ es)
  | _, _, _, _, .nil, q => q
  | _, _, _, _, .cons h k r, q => .cons h k (Rpn.app r q)
theorem Rpn.put {H : Hp} {O : OS} {xs : List (NestedKey × Addr × Value)} {ds : List (D × D)} (r : Rpn H O xs ds) {ks : List D} {b : Addr} (hk : keyOk (.tup ks) = true) (hb : Rp H O (.ref b) (.tup ks)) (t : Bool) :
    Rpn H O (storedH xs (nk (.tup ks)) b (.bool t)) (dput ds (.tup ks) (.bl t)) := by
  unfold storedH dput
  rw [r.any hk]
  split
  · exact r.map hk t
  · exact r.app (.cons hb hk .nil)
mutual
theorem nk_is {pins : List (Addr × Obj)} {s : Shared} {σ : L2.St} {H : Hp} {O : OS} (I : L2.Inv X pins σ H s) : ∀ {v : V} {d : D} {u : Value}, Rp H O v d → d.kst = true → L2.RelV v u → NestedIs s.heap (nk d) u
  | _, _, _, .str x, _, r => by obtain ⟨t, rfl⟩ := r; exact .text x t
  | _, _, _, .tup (a := a) n h rr, k, r => by
    cases r
    obtain ⟨its, rv, ⟨o, ho, hc, m, hd⟩, _⟩ := I.tuple (a := a) (.inl h)
    exact .tup ho hc hd (by simpa using nks_is I rr (by simpa [D.kst] using k) rv)
  | _, _, _, .non, k, _ => by simp [D.kst] at k
  | _, _, _, .bl _, k, _ => by simp [D.kst] at k
  | _, _, _, .int _, k, _ => by simp [D.kst] at k
  | _, _, _, .lst _ _ _, k, _ => by simp [D.kst] at k
  | _, _, _, .dic _ _ _, k, _ => by simp [D.kst] at k
  | _, _, _, .dicN _ _ _ _, k, _ => by simp [D.kst] at k
theorem nks_is {pins : List (Addr × Obj)} {s : Shared} {σ : L2.St} {H : Hp} {O : OS} (I : L2.Inv X pins σ H s) : ∀ {v : List V} {d : List D} {u : List Value}, Rps H O v d → D.ksts d = true → Vals v u → NestedAll s.heap (nks d) u
  | _, _, _, .nil, _, r => by cases r; exact .nil
  | _, _, _, .cons h rr, k, r => by
    simp only [D.ksts, Bool.and_eq_true] at k
    cases r with
    | cons r1 r2 => exact .cons (nk_is I h k.1 r1) (nks_is I rr k.2 r2)
end
mutual
theorem nk_dep : ∀ d : D, (nk d).depth ≤ d.kdep
  | .str _ => by simp [nk, NestedKey.depth]
  | .tup ds => by simp only [nk, NestedKey.depth, D.kdep]; have := nks_dep ds; omega
  | .non => by simp [nk, NestedKey.depth]
  | .bl _ => by simp [nk, NestedKey.depth]
  | .int _ => by simp [nk, NestedKey.depth]
  | .lst _ => by simp [nk, NestedKey.depth]
  | .dic _ => by simp [nk, NestedKey.depth]
  | .exc _ _ => by simp [nk, NestedKey.depth]
theorem nks_dep : ∀ ds : List D, NestedKey.depthAll (nks ds) ≤ D.kdeps ds
  | [] => by simp [nks, NestedKey.depthAll]
  | d :: ds => by simp only [nks, NestedKey.depthAll, D.kdeps]; have := nk_dep d; have := nks_dep ds; omega
end
theorem key_is {pins : List (Addr × Obj)} {s : Shared} {σ : L2.St} {H : Hp} {O : OS} {b : Addr} {ks : List D} (I : L2.Inv X pins σ H s) (h : Rp H O (.ref b) (.tup ks)) (k : keyOk (.tup ks) = true) : (nestedKind X.prog X.w).is s.heap (nk (.tup ks)) b := by
  have k2 := (Bool.and_eq_true _ _ ▸ k).2
  exact ⟨nk_is I h (keyOk_st k) rfl, Nat.le_trans (nk_dep _) (of_decide_eq_true k2)⟩
theorem rpn_is {pins : List (Addr × Obj)} {s : Shared} {σ : L2.St} {H : Hp} {O : OS} (I : L2.Inv X pins σ H s) : ∀ {xs : List (NestedKey × Addr × Value)} {ds : List (D × D)}, Rpn H O xs ds → ∀ x ∈ xs, (nestedKind X.prog X.w).is s.heap x.1 x.2.1
  | _, _, .nil, _, hx => nomatch hx
  | _, _, .cons h k r, x, hx => by
    rcases List.mem_cons.mp hx with e | hx
    · rw [e]; exact key_is I h k
    · exact rpn_is I r x hx
theorem nO_at {P : Program} {w : World} {H : Hp} {h : Heap} {a : Addr} {xs : List (NestedKey × Addr × Value)} (hok : HOk P w H h) (ha : H a = some (nO a xs)) : (a == sysModules) = false ∧ xs.length ≤ sizeLine ∧ ∃ o es ep, h.get? a = some o ∧ o.ExactDict ∧ o.data = .dict es ep ∧ es.toList = xs.map entN ∧ (xs.map (·.1)).Nodup := by
  have x : ObjOk P w H h a (.ext fun h => (a == sysModules) = false ∧ xs.length ≤ sizeLine ∧ ∃ o es ep, h.get? a = some o ∧ o.ExactDict ∧ o.data = .dict es ep ∧ es.toList = xs.map entN ∧ (xs.map (·.1)).Nodup) := hok a _ ha
  exact x.1
/-- a dict that may be asked by such keys -/
theorem nest_of {pins : List (Addr × Obj)} {s : Shared} {σ : L2.St} {H : Hp} {O : OS} {v : V} {ds : List (D × D)} {ks : List D} (hw : X.w = Wd.wd) (I : L2.Inv X pins σ H s) (h : RpT H O v (.dic ds)) (k : keysOk ds (.tup ks) = true) :
    ∃ a xs, v = .ref a ∧ (a == sysModules) = false ∧ xs.length ≤ sizeLine ∧ s.heap.DictOfH (nestedKind X.prog X.w) a xs ∧ Rpn H O xs ds := by
  rcases h with ⟨a, kv, rfl, h, r⟩ | ⟨a, xs, rfl, h, _, r⟩
  · cases r with
    | nil =>
      obtain ⟨z, y, vs, rv, o, es, ep, h1, h2, h3, _, h5, _⟩ := dk_rd I.hok h
      unfold KV at rv
      cases rv
      have e0 : es.toList = [] := by
        have := h5.length
        exact List.eq_nil_of_length_eq_zero this
      exact ⟨a, [], rfl, y, Nat.zero_le _, ⟨o, es, ep, h1, h2, h3, by rw [e0]; rfl, (fun x hx => absurd hx (by simp)), List.nodup_nil⟩, .nil⟩
    | @cons k1 v1 _ d1 ds1 q r =>
      simp only [keysOk, tupK, List.all_cons, Bool.and_eq_true] at k
      cases k1 <;> exact absurd k.1 (fun z => nomatch z)
  · obtain ⟨h1, h2, o, es, ep, h3, h4, h5, h6, h7⟩ := nO_at I.hok h
    refine ⟨a, xs, rfl, h1, h2, ⟨o, es, ep, h3, h4, h5, ?_, rpn_is I r, h7⟩, r⟩
    rw [h6]
    show xs.map entN = xs.map (entryOfKey (nestedKind X.prog X.w))
    rw [show (entN : NestedKey × Addr × Value → DictEntry) = entryOfKey (nestedKind X.prog X.w) from funext fun x => by unfold entN entryOfKey; rw [← hw]; rfl]
theorem ok_in (hu : X.A.units + 200 < cLine) (hw : X.w = Wd.wd) : OpR X (compareOp .In) (q2 .inn) := by
  rintro pins s σ H x y v u Q I rx ry ⟨O, d, e, r, hO, hd, he, ho, q⟩
  cases e with
  | lst es =>
    simp only [op2, opIn] at ho
    split at ho
    · rename_i hc
      cases ho
      obtain ⟨p1, p2, l1, l2, k⟩ := in_reads (K := X.K) hu hd he hc
      obtain ⟨as, r1⟩ := Dp.reads I _ x v p1 rx
      obtain ⟨bs, r2⟩ := Dp.reads I _ y u p2 ry
      refine SeqAt.in_list_reads r2 r1 l2 l1 k ?_
      rw [any_toP]
      exact ⟨.bl _, H, I, rfl, q.s (.bl _)⟩
    · cases ho
  | dic ds =>
    cases d with
    | str z =>
      simp only [op2, opIn] at ho
      split at ho
      · rename_i hks
        cases ho
        obtain ⟨a, kv, rfl, h, rr⟩ := strs_of he hks
        have hx := hd.str
        subst hx
        cases ry
        obtain ⟨o, g, e1, _⟩ := dget_at h rr z
        refine d_in (by omega) I g rx fun s' I' => ?_
        rw [e1]
        exact ⟨.bl _, H, I', rfl, q.s (.bl _)⟩
      · cases ho
    | tup ks =>
      simp only [op2, opIn] at ho
      split at ho
      · rename_i hk
        cases ho
        simp only [Bool.and_eq_true] at hk
        obtain ⟨a, xs, rfl, h1, h2, h3, rr⟩ := nest_of hw I he hk.2
        obtain ⟨b, vs, rfl, n, hb, rb⟩ := hd.tup
        cases rx
        cases ry
        refine wpAny_in_heap (knd := nestedKind X.prog X.w) (by show X.A.units + 1 + 8 < cLine; omega) (key_is I (.tup n hb rb) hk.1) h1 h3 ?_
        have e : (dget ds (.tup ks)).isSome = (atKey xs (nk (.tup ks))).isSome := by
          rcases rr.get hk.1 with ⟨e1, e2⟩ | ⟨c, t, e1, e2⟩ <;> (rw [e1, e2]; rfl)
        rw [← e]
        exact ⟨.bl _, H, I.tok _, rfl, q.s (.bl _)⟩
      · cases ho
    | _ => cases ho
  | str z =>
    cases d with
    | str w =>
      simp only [op2, opIn] at ho
      split at ho
      · rename_i c hc
        cases ho
        have hx := hd.str
        have hw : w = ⟨#[c]⟩ := by cases w with | mk cs => simp only at hc; rw [← Array.toArray_toList (xs := cs), hc]
        subst hw
        refine op_in_sign pins s σ H x y v u Q I rx ry ⟨c, z, hx, he.str, ?_⟩
        have e : decide (c ∈ z.cps.toList) = z.cps.toList.contains c := by rw [Bool.eq_iff_iff]; simp
        rw [e]; exact q.s (.bl _)
      · cases ho
    | _ => cases ho
  | _ => cases ho
theorem ok_nin (hu : X.A.units + 200 < cLine) (hw : X.w = Wd.wd) : OpR X (compareOp .NotIn) (q2 .nin) := by
  rintro pins s σ H x y v u Q I rx ry ⟨O, d, e, r, hO, hd, he, ho, q⟩
  cases e with
  | lst es =>
    simp only [op2, opIn] at ho
    split at ho
    · rename_i hc
      cases ho
      obtain ⟨p1, p2, l1, l2, k⟩ := in_reads (K := X.K) hu hd he hc
      obtain ⟨as, r1⟩ := Dp.reads I _ x v p1 rx
      obtain ⟨bs, r2⟩ := Dp.reads I _ y u p2 ry
      refine SeqAt.notIn_list_reads r2 r1 l2 l1 k ?_
      rw [any_toP]
      exact ⟨.bl _, H, I, rfl, q.s (.bl _)⟩
    · cases ho
  | dic ds =>
    cases d with
    | str z =>
      simp only [op2, opIn] at ho
      split at ho
      · rename_i hks
        cases ho
        obtain ⟨a, kv, rfl, h, rr⟩ := strs_of he hks
        have hx := hd.str
        subst hx
        cases ry
        obtain ⟨o, g, e1, _⟩ := dget_at h rr z
        refine d_notIn (by omega) I g rx fun s' I' => ?_
        rw [e1]
        exact ⟨.bl _, H, I', rfl, q.s (.bl _)⟩
      · cases ho
    | tup ks =>
      simp only [op2, opIn] at ho
      split at ho
      · rename_i hk
        cases ho
        simp only [Bool.and_eq_true] at hk
        obtain ⟨a, xs, rfl, h1, h2, h3, rr⟩ := nest_of hw I he hk.2
        obtain ⟨b, vs, rfl, n, hb, rb⟩ := hd.tup
        cases rx
        cases ry
        refine wpAny_notIn_heap (knd := nestedKind X.prog X.w) (by show X.A.units + 1 + 8 < cLine; omega) (key_is I (.tup n hb rb) hk.1) h1 h3 ?_
        have e : (dget ds (.tup ks)).isSome = (atKey xs (nk (.tup ks))).isSome := by
          rcases rr.get hk.1 with ⟨e1, e2⟩ | ⟨c, t, e1, e2⟩ <;> (rw [e1, e2]; rfl)
        rw [← e]
        exact ⟨.bl _, H, I.tok _, rfl, q.s (.bl _)⟩
      · cases ho
    | _ => cases ho
  | str z =>
    cases d with
    | str w =>
      simp only [op2, opIn] at ho
      split at ho
      · rename_i c hc
        cases ho
        have hx := hd.str
        have hw : w = ⟨#[c]⟩ := by cases w with | mk cs => simp only at hc; rw [← Array.toArray_toList (xs := cs), hc]
        subst hw
        refine op_notIn_sign pins s σ H x y v u Q I rx ry ⟨c, z, hx, he.str, ?_⟩
        have e : decide (c ∈ z.cps.toList) = z.cps.toList.contains c := by rw [Bool.eq_iff_iff]; simp
        rw [e]; exact q.s (.bl _)
      · cases ho
    | _ => cases ho
  | _ => cases ho
/-! ### d[k] -/
theorem ok_idx (hu : X.A.units + 200 < cLine) (hw : X.w = Wd.wd) : IxR X (q2 .idx) := by
  rintro value slice pins s σ H x y v u Q I rx ry ⟨O, d, e, r, hO, hd, he, ho, q⟩ hs
  cases e with
  | int i =>
    have hy := he.int
    subst hy
    cases d with
    | lst ds =>
      obtain ⟨z, e1, rfl⟩ := Option.map_eq_some_iff.mp ho
      obtain ⟨a, vs, rfl, h, rr⟩ := hd
      obtain ⟨w, ew, rw'⟩ := rr.at e1
      exact ix_list value slice pins s σ H _ _ v u Q I rx ry ⟨a, vs, i, w, rfl, rfl, .inl h, ew, q.s rw'⟩ hs
    | tup ds =>
      obtain ⟨z, e1, rfl⟩ := Option.map_eq_some_iff.mp ho
      obtain ⟨a, vs, rfl, n, h, rr⟩ := hd.tup
      obtain ⟨w, ew, rw'⟩ := rr.at e1
      exact ix_tup value slice pins s σ H _ _ v u Q I rx ry ⟨a, vs, i, w, rfl, rfl, .inl h, ew, q.s rw'⟩ hs
    | str z =>
      simp only [op2, opIdx] at ho
      split at ho
      · rename_i hz
        obtain ⟨c, e1, rfl⟩ := Option.map_eq_some_iff.mp ho
        exact ix_str value slice pins s σ H _ _ v u Q I rx ry ⟨z, i, c, hd.str, rfl, of_decide_eq_true hz, e1, q.s (.str _)⟩ hs
      · cases ho
    | _ => cases ho
  | str z =>
    cases d with
    | dic ds =>
      simp only [op2, opIdx] at ho
      split at ho
      · rename_i hks
        obtain ⟨w, e1, rfl⟩ := Option.map_eq_some_iff.mp ho
        obtain ⟨a, kv, rfl, h, rr⟩ := strs_of hd hks
        have hy := he.str
        subst hy
        cases rx
        obtain ⟨o, g, _, e2⟩ := dget_at h rr z
        obtain ⟨v', rfl, rv⟩ := e2 w e1
        exact tail_any (dict_typeIs I g) PySem.F.slot_dict_getitem.lookup (d_getItem (by omega) I g ry fun w' s3 I3 rw' => ⟨v', H, I3, rw', q.s rv⟩) hs
      · cases ho
    | _ => cases ho
  | tup ks =>
    cases d with
    | dic ds =>
      simp only [op2, opIdx] at ho
      split at ho
      · rename_i hk
        simp only [Bool.and_eq_true] at hk
        obtain ⟨w, e1, rfl⟩ := Option.map_eq_some_iff.mp ho
        obtain ⟨a, xs, rfl, h1, h2, h3, rr⟩ := nest_of hw I hd hk.2
        obtain ⟨b, vs, rfl, n, hb, rb⟩ := he.tup
        cases rx
        cases ry
        rcases rr.get hk.1 with ⟨e2, _⟩ | ⟨c, t, e2, e3⟩
        · rw [e2] at e1; cases e1
        · rw [e2] at e1; cases e1
          exact tail_any h3.typeIs PySem.F.slot_dict_getitem.lookup (wpAny_getItem_heap (knd := nestedKind X.prog X.w) (by show X.A.units + 1 + 8 < cLine; omega) (key_is I (.tup n hb rb) hk.1) h3 e3 ⟨.bl t, H, I.tok _, rfl, q.s (.bl _)⟩) hs
      · cases ho
    | _ => cases ho
  | _ => cases d <;> cases ho
theorem ok_max (hc : X.calm = true) : CallR X (.builtin "max") (c2 .max) := by
  rintro pins s σ H xs us Q I rs ⟨x, y, rfl, O, d, e, r, hO, hd, he, ho, q⟩
  obtain ⟨i, j, rfl, rfl, e1⟩ := int2 (f := fun i j => some (.sh, .int (maxI i j))) hd he ho
  cases e1
  exact call_max2 hc pins s σ H _ us Q I rs ⟨i, j, rfl, q.s (.int _)⟩
theorem ok_min (hc : X.calm = true) : CallR X (.builtin "min") (c2 .min) := by
  rintro pins s σ H xs us Q I rs ⟨x, y, rfl, O, d, e, r, hO, hd, he, ho, q⟩
  obtain ⟨i, j, rfl, rfl, e1⟩ := int2 (f := fun i j => some (.sh, .int (minI i j))) hd he ho
  cases e1
  exact call_min2 hc pins s σ H _ us Q I rs ⟨i, j, rfl, q.s (.int _)⟩

/-! ### slices -/
def qS : V → Option Int → Option Int → Hp → VK → Prop := fun x lo hi H Q => ∃ O d r, (∀ a, O a → H a ≠ none) ∧ RpT H O x d ∧ opSl d lo hi = some r ∧ VPost O H Q r
theorem ok_sl : SlR X qS := by
  rintro pins s σ H x v vl vu lo hi sl Q I rx hs pl pu ⟨O, d, r, hO, hd, e, q⟩
  cases d with
  | lst ds =>
    cases e
    obtain ⟨a, vs, rfl, h, rr⟩ := hd
    exact sl_list pins s σ H _ v vl vu lo hi sl Q I rx hs pl pu ⟨a, vs, rfl, .inl h, q.l (rr.cut lo hi)⟩
  | tup ds =>
    cases e
    obtain ⟨a, vs, rfl, n, h, rr⟩ := hd.tup
    refine sl_tupA pins s σ H _ v vl vu lo hi sl Q I rx hs pl pu ⟨a, vs, rfl, .inl h, fun z => ?_, fun _ => q.t (rr.cut lo hi) hO⟩
    have e2 : cut ds lo hi = ds := by
      unfold cut
      rw [← rr.length, z.1, z.2, List.drop_zero, Nat.sub_zero, rr.length, List.take_length]
    rw [e2] at q
    exact q.s (.tup n h rr)
  | str z =>
    simp only [opSl] at e
    split at e
    · rename_i hz
      cases e
      refine sl_str pins s σ H _ v vl vu lo hi sl Q I rx hs pl pu ⟨z, hd.str, of_decide_eq_true hz, ?_⟩
      exact q.s (.str _)
    · cases e
  | _ => cases e
/-! ### max(xs, default=0), ''.join(xs) -/
theorem reads_ints {H : Hp} {pins : List (Addr × Obj)} {σ : L2.St} {s : Shared} (I : L2.Inv X pins σ H s) : ∀ {ns : List Int} {its : List Value}, Vals (ns.map V.int) its → ∃ as, ReadsAll s.heap its (ns.map PyData.int) as := by
  intro ns
  induction ns with
  | nil => intro its r; cases r; exact ⟨_, .nil⟩
  | cons n ns ih =>
    intro its r
    cases r with
    | cons r1 r2 =>
      obtain ⟨t, rfl⟩ := r1
      obtain ⟨as, h⟩ := ih r2
      exact ⟨_, .cons (.int n t) h⟩
theorem alike_ints (ns : List Int) : PySem.W.AlikeAll (ns.map PyData.int) := by
  refine ⟨fun x hx y hy => ?_, fun x hx => ?_⟩
  · obtain ⟨i, _, rfl⟩ := List.mem_map.mp hx
    obtain ⟨j, _, rfl⟩ := List.mem_map.mp hy
    rfl
  · obtain ⟨i, _, rfl⟩ := List.mem_map.mp hx
    exact fun z => nomatch z
theorem depth_ints (ns : List Int) : PyData.depthAll (ns.map PyData.int) = 0 := by
  induction ns with
  | nil => rfl
  | cons n ns ih => simp only [List.map_cons, PyData.depthAll, PyData.depth, ih]; rfl
theorem ok_max0 (hc : X.calm = true) (hu : X.A.units + 200 < cLine) : CallRK X (.builtin "max") ["default"] (fun xs zs H Q => ∃ x, xs = [x] ∧ zs = [.int 0] ∧ q1 .max0 x H Q) := by
  rintro pins s σ H xs zs us ws Q I rs rz ⟨x, rfl, rfl, O, d, r, hO, hd, e, q⟩
  cases d with
  | lst ds =>
    obtain ⟨ns, en, rfl⟩ := Option.map_eq_some_iff.mp e
    obtain ⟨a, vs, rfl, h, rr⟩ := hd
    have ev := rr.ints en
    subst ev
    obtain ⟨its, rv, hl, _⟩ := I.list (a := a) (.inl h)
    rw [Vals.ref1 rs]
    obtain ⟨u, rfl, ru⟩ := Vals.one rz
    obtain ⟨as, hr⟩ := reads_ints I rv
    refine PySem.W.max_list_default (I.ok.hd hc) hl.isList hr (alike_ints ns) (by rw [depth_ints]; omega) (fun h0 h' tk hk => ?_) fun y ys i v h' tk bs hx hv hr' hk => ?_
    · have e0 : ns = [] := by simpa using h0
      subst e0
      exact ⟨.int 0, H, I.kept hk, ru, q.s (.int _)⟩
    · cases ns with
      | nil => cases hx
      | cons n ns =>
        simp only [List.map_cons, List.cons.injEq] at hx
        obtain ⟨rfl, rfl⟩ := hx
        rw [PySem.W.maxD_ints] at hr'
        cases hr' with
        | int _ t => exact ⟨.int _, H, I.kept hk, ⟨_, rfl⟩, q.s (.int _)⟩
  | _ => cases e
theorem join_nilS : ∀ xs : List Str, Str.join ⟨#[]⟩ xs = joinS xs
  | [] => rfl
  | [x] => by
    show x = x ++ (⟨#[]⟩ : Str)
    cases x with | mk c => show (⟨c⟩ : Str) = ⟨c ++ #[]⟩; simp
  | x :: y :: r => by
    show x ++ (⟨#[]⟩ : Str) ++ Str.join ⟨#[]⟩ (y :: r) = x ++ joinS (y :: r)
    rw [join_nilS (y :: r)]
    have e : x ++ (⟨#[]⟩ : Str) = x := by cases x with | mk c => show (⟨c ++ #[]⟩ : Str) = ⟨c⟩; simp
    rw [e]
theorem join_nil (xs : List Str) : Txt.join ⟨#[]⟩ xs = joinS xs := (PySem.StrLaws.glued_eq_join _ _).trans (join_nilS xs)
theorem lenAll_sum (xs : List Str) : lenAll xs = (xs.map (·.length)).sum := by
  induction xs with
  | nil => rfl
  | cons x r ih => simp only [lenAll, List.map_cons, List.sum_cons, ih]
theorem ok_join : MtR X "str.join" (fun x xs H Q => x = .str ⟨#[]⟩ ∧ c1 .join xs H Q) := by
  rintro pins s σ H x xs v us Q I rx rs ⟨rfl, y, rfl, O, d, r, hO, hd, e, q⟩
  cases d with
  | lst ds =>
    obtain ⟨ys, ey, e⟩ := Option.bind_eq_some_iff.mp e
    split at e
    · rename_i hz
      cases e
      obtain ⟨a, vs, rfl, h, rr⟩ := hd
      have ev := rr.strs ey
      subst ev
      refine mt_join pins s σ H _ _ v us Q I rx rs ⟨_, a, ys, rfl, rfl, .inl (.inl h), ?_, ?_⟩
      · rw [← lenAll_sum]; show _ + ys.length * 0 ≤ _; omega
      · rw [join_nil]; exact q.s (.str _)
    · cases e
  | _ => cases e
end
end En
end

section
set_option Elab.async false
set_option linter.all false
set_option maxRecDepth 100000
set_option maxHeartbeats 4000000
namespace En
open PySem PySem.Spec PyProof.Rows L2
variable [Wd]
section
variable {X : Cx}
theorem strs_rp {H : Hp} {O : OS} : ∀ xs : List Str, Rps H O (xs.map V.str) (xs.map D.str)
  | [] => .nil
  | x :: xs => .cons (.str x) (strs_rp xs)
/-- dict(d) -/
theorem ok_dict : CallR X (.type "dict") (c1 .dict) := by
  rintro pins s σ H xs us Q I rs ⟨x, rfl, O, d, r, hO, hd, e, q⟩
  cases d with
  | dic ds =>
    simp only [op1] at e
    split at e
    · rename_i hk
      cases e
      obtain ⟨a, kv, rfl, h, rr⟩ := strs_of hd hk
      refine call_dictD pins s σ H _ us Q I rs ⟨a, kv, rfl, h, fun p hp => ?_⟩
      exact q p _ hp (Ex.new hp) (.inl ⟨kv, upd_same, rr.go ⟨fun a o e _ => Ex.new hp a o e, fun a z => z.imp id fun z => by rw [z]; exact hp⟩⟩)
    · cases e
  | _ => cases e
/-! ### the order of texts -/
theorem leS_iff {x y : Str} : leS x y = true ↔ ltCps y.cps.toList x.cps.toList = false := by
  unfold leS
  rw [ltCps_eq, decide_eq_true_eq, decide_eq_false_iff_not, List.not_lt]
theorem leS_refl (x : Str) : leS x x = true := by unfold leS; simp
theorem leS_trans {x y z : Str} (h : leS x y = true) (k : leS y z = true) : leS x z = true := by
  unfold leS at *
  simp only [decide_eq_true_eq] at *
  exact List.le_trans h k
theorem leS_anti {x y : Str} (h : leS x y = true) (k : leS y x = true) : x = y := by
  unfold leS at *
  simp only [decide_eq_true_eq] at *
  have e : x.cps.toList = y.cps.toList := List.le_antisymm h k
  cases x with | mk cx => cases y with | mk cy => exact congrArg Str.mk (by simpa using congrArg List.toArray e)
theorem leS_total (x y : Str) : leS x y = true ∨ leS y x = true := by
  unfold leS
  simp only [decide_eq_true_eq]
  exact List.le_total x.cps.toList y.cps.toList
theorem rising_pw : ∀ (xs : List Str) (p : Str), risingS p xs = true → (p :: xs).Pairwise (fun a b => leS a b = true)
  | [], p, _ => by simp
  | x :: r, p, h => by
    simp only [risingS, Bool.and_eq_true, Bool.not_eq_true'] at h
    have hr := rising_pw r x h.2
    have hp : leS p x = true := leS_iff.mpr h.1
    refine List.pairwise_cons.mpr ⟨fun y hy => ?_, hr⟩
    rcases List.mem_cons.mp hy with e | e
    · rw [e]; exact hp
    · exact leS_trans hp (List.rel_of_pairwise_cons hr e)
theorem sorted_pw {xs : List Str} (h : sortedS xs = true) : xs.Pairwise (fun a b => leS a b = true) := by
  cases xs with
  | nil => exact .nil
  | cons x r => exact rising_pw r x h
theorem insS_perm (x : Str) : ∀ xs : List Str, (insS x xs).Perm (x :: xs)
  | [] => .refl _
  | y :: r => by
    unfold insS
    split
    · exact .refl _
    · exact ((insS_perm x r).cons y).trans (.swap x y r)
theorem sortS_perm : ∀ xs : List Str, (sortS xs).Perm xs
  | [] => .refl _
  | x :: r => (insS_perm x (sortS r)).trans ((sortS_perm r).cons x)
theorem insS_pw (x : Str) : ∀ {xs : List Str}, xs.Pairwise (fun a b => leS a b = true) → (insS x xs).Pairwise (fun a b => leS a b = true)
  | [], _ => by simp [insS]
  | y :: r, h => by
    unfold insS
    split
    · rename_i hxy
      refine List.pairwise_cons.mpr ⟨fun z hz => ?_, h⟩
      rcases List.mem_cons.mp hz with e | e
      · rw [e]; exact hxy
      · exact leS_trans hxy (List.rel_of_pairwise_cons h e)
    · rename_i hxy
      have hyx : leS y x = true := (leS_total x y).resolve_left hxy
      have h' := List.pairwise_cons.mp h
      refine List.pairwise_cons.mpr ⟨fun z hz => ?_, insS_pw x h'.2⟩
      rcases List.mem_cons.mp ((insS_perm x r).mem_iff.mp hz) with e | e
      · rw [e]; exact hyx
      · exact h'.1 z e
theorem sortS_pw : ∀ xs : List Str, (sortS xs).Pairwise (fun a b => leS a b = true)
  | [] => .nil
  | x :: r => insS_pw x (sortS_pw r)
theorem perm_pw : ∀ {xs ys : List Str}, xs.Perm ys → xs.Pairwise (fun a b => leS a b = true) → ys.Pairwise (fun a b => leS a b = true) → xs = ys
  | [], ys, p, _, _ => (List.nil_perm.mp p).symm
  | x :: xs, [], p, _, _ => (List.perm_nil.mp p)
  | x :: xs, y :: ys, p, h, k => by
    have h' := List.pairwise_cons.mp h
    have k' := List.pairwise_cons.mp k
    have e : x = y := by
      rcases List.mem_cons.mp (p.mem_iff.mp (List.mem_cons_self (a := x) (l := xs))) with e | e
      · exact e
      · rcases List.mem_cons.mp (p.symm.mem_iff.mp (List.mem_cons_self (a := y) (l := ys))) with e2 | e2
        · exact e2.symm
        · exact leS_anti (h'.1 y e2) (k'.1 x e)
    subst e
    rw [perm_pw (List.Perm.cons_inv p) h'.2 k'.2]
theorem sortS_eq {xs ys : List Str} (p : ys.Perm xs) (h : sortedS ys = true) : ys = sortS xs := perm_pw (p.trans (sortS_perm xs).symm) (sorted_pw h) (sortS_pw xs)
theorem ok_sort : CallR X (.builtin "sorted") (c1 .sort) := by
  rintro pins s σ H xs us Q I rs ⟨x, rfl, O, d, r, hO, hd, e, q⟩
  cases d with
  | lst ds =>
    obtain ⟨ys, ey, e⟩ := Option.bind_eq_some_iff.mp e
    split at e
    · rename_i hz
      cases e
      obtain ⟨a, vs, rfl, h, rr⟩ := hd
      have ev := rr.strs ey
      subst ev
      refine cr_sortedS pins s σ H _ us Q I rs ⟨a, ys, rfl, .inl h, hz, fun zs p hp hs hn => ?_⟩
      have e1 := sortS_eq hp hs
      subst e1
      exact q.l (strs_rp _) p hn
    · cases e
  | _ => cases e
/-- rank.index(x) -/
theorem idxS_at : ∀ {xs : List Str} {x : Str} {n : Nat}, idxS xs x = some n → xs[n]? = some x ∧ ∀ (m : Nat) (z : Str), m < n → xs[m]? = some z → z ≠ x
  | [], _, _, h => by cases h
  | y :: r, x, n, h => by
    unfold idxS at h
    split at h
    · rename_i e
      cases h
      subst e
      exact ⟨rfl, fun m z hm => absurd hm (by omega)⟩
    · rename_i ne
      obtain ⟨k, hk, rfl⟩ := Option.map_eq_some_iff.mp h
      obtain ⟨h1, h2⟩ := idxS_at hk
      refine ⟨by simpa using h1, fun m z hm hz => ?_⟩
      cases m with
      | zero => simp at hz; rw [← hz]; exact ne
      | succ m => exact h2 m z (by omega) (by simpa using hz)
theorem ok_index : MtR X "list.index" (fun x xs H Q => ∃ y, xs = [y] ∧ q2 .index x y H Q) := by
  rintro pins s σ H x xs v us Q I rx rs ⟨y, rfl, O, d, e, r, hO, hd, he, ho, q⟩
  cases d with
  | lst ds =>
    cases e with
    | str z =>
      obtain ⟨ys, ey, ho⟩ := Option.bind_eq_some_iff.mp ho
      obtain ⟨n, hn, rfl⟩ := Option.map_eq_some_iff.mp ho
      obtain ⟨a, vs, rfl, h, rr⟩ := hd
      have ev := rr.strs ey
      subst ev
      have hy := he.str
      subst hy
      obtain ⟨h1, h2⟩ := idxS_at hn
      refine mt_index pins s σ H _ _ v us Q I rx rs ⟨a, ys.map V.str, .str z, n, .str z, rfl, rfl, .inl h, rfl, ?_, ?_, ?_, ?_, q.s (.int _)⟩
      · simp [flatV]
      · rw [List.getElem?_map, h1]; rfl
      · simp [eqV]
      · intro m z' hm hz'
        rw [List.getElem?_map] at hz'
        obtain ⟨w, hw, rfl⟩ := Option.map_eq_some_iff.mp hz'
        have := h2 m w hm hw
        simp [eqV, this]
    | _ => cases ho
  | _ => cases ho
end
end En
end

section
set_option Elab.async false
set_option linter.all false
set_option maxRecDepth 100000
set_option maxHeartbeats 4000000
namespace En
open PySem PySem.Spec L2
variable [Wd]

/-! ### environments over slots -/
def WA (env : Env) (σ : L2.St) : OS := fun a => ∃ i, isOw env i = true ∧ σ[i]? = some (some (.ref a))
def All (Ox : OS) (env : Env) (σ : L2.St) : OS := fun a => Ox a ∨ WA env σ a

structure EvR (Ox : OS) (H0 : Hp) (M : OS) (env : Env) (σ : L2.St) (H : Hp) : Prop where
  len : env.length = σ.length
  sh : ∀ i d, getS env i = some (.sh, d) → ∃ v, σ[i]? = some (some v) ∧ Rp H (All Ox env σ) v d
  ow : ∀ i m d, getS env i = some (m, d) → m ≠ .sh → ∃ a, σ[i]? = some (some (.ref a)) ∧ OwnT H (All Ox env σ) a d ∧ ¬ Ox a ∧ (m = .ow → H0 a = none) ∧ (m = .mu → M a)
  inj : ∀ i j a, isOw env i = true → isOw env j = true → σ[i]? = some (some (.ref a)) → σ[j]? = some (some (.ref a)) → i = j
  pres : ∀ a o, H0 a = some o → ¬ M a → H a = some o
  dom : ∀ a, Ox a → H a ≠ none
  mdom : ∀ a, M a → H a ≠ none

theorem isOw_iff {env : Env} {i : Nat} : isOw env i = true ↔ ∃ m d, getS env i = some (m, d) ∧ m ≠ .sh := by
  unfold isOw
  cases h : getS env i with
  | none => simp
  | some p =>
    obtain ⟨m, d⟩ := p
    cases m <;> simp

section
variable {Ox Ox1 : OS} {H0 H H' H1 H2 : Hp} {M Wa Wb : OS} {env env1 env2 : Env} {σ : L2.St}
theorem EvR.owa (e : EvR Ox H0 M env σ H) {a : Addr} (h : WA env σ a) : ¬ Ox a ∧ H a ≠ none := by
  obtain ⟨i, hi, hs⟩ := h
  obtain ⟨m, d, hg, hm⟩ := isOw_iff.mp hi
  obtain ⟨b, hb, ho, hx, _⟩ := e.ow i m d hg hm
  rw [hs] at hb
  have := Option.some.inj (Option.some.inj hb)
  cases this
  exact ⟨hx, ho.some⟩
theorem EvR.domA (e : EvR Ox H0 M env σ H) : ∀ a, All Ox env σ a → H a ≠ none := fun a h => by
  rcases h with h | h
  · exact e.dom a h
  · exact (e.owa h).2
theorem EvR.back (e : EvR Ox H0 M env σ H) {a : Addr} (h : H a = none) : H0 a = none := by
  cases q : H0 a with
  | none => rfl
  | some o =>
    by_cases hm : M a
    · exact absurd h (e.mdom a hm)
    · rw [e.pres a o q hm] at h; cases h
/-- the heap goes on, nothing that stood is changed -/
theorem EvR.ex (e : EvR Ox H0 M env σ H) (x : Ex H H') : EvR Ox H0 M env σ H' where
  len := e.len
  sh := fun i d h => let ⟨v, a, b⟩ := e.sh i d h; ⟨v, a, b.go (Goes1.ex x)⟩
  ow := fun i m d h k => let ⟨a, b, c, r⟩ := e.ow i m d h k; ⟨a, b, c.go (Goes1.ex x) (fun o q => x a o q), r⟩
  inj := e.inj
  pres := fun a o h k => x a o (e.pres a o h k)
  dom := fun a h z => by
    cases q : H a with
    | none => exact e.dom a h q
    | some o => rw [x a o q] at z; cases z
  mdom := fun a h z => by
    cases q : H a with
    | none => exact e.mdom a h q
    | some o => rw [x a o q] at z; cases z
theorem EvR.less (e : EvR Ox1 H0 M env σ H) (s : ∀ a, Ox a → Ox1 a) : EvR Ox H0 M env σ H where
  len := e.len
  sh := fun i d h => let ⟨v, a, b⟩ := e.sh i d h; ⟨v, a, b.go (Goes1.less fun a z => z.imp (s a) id)⟩
  ow := fun i m d h k => let ⟨a, b, c, n, r⟩ := e.ow i m d h k; ⟨a, b, c.go (Goes1.less fun a z => z.imp (s a) id) (fun o q => q), fun z => n (s a z), r⟩
  inj := e.inj
  pres := e.pres
  dom := fun a h => e.dom a (s a h)
  mdom := e.mdom
/-- a new address is kept away from -/
theorem EvR.add (e : EvR Ox H0 M env σ H) {p : Addr} (hp : H p = none) (x : Ex H H') (hq : H' p ≠ none) : EvR (plus Ox p) H0 M env σ H' := by
  have e' := e.ex x
  have g : Goes1 H H' (All Ox env σ) (All (plus Ox p) env σ) := ⟨fun a o h _ => x a o h, fun a z => by
    rcases z with (z | z) | z
    · exact .inl (.inl z)
    · exact .inr (by rw [z]; exact hp)
    · exact .inl (.inr z)⟩
  refine ⟨e.len, fun i d h => ?_, fun i m d h k => ?_, e.inj, e'.pres, fun a h => ?_, e'.mdom⟩
  · obtain ⟨v, a, b⟩ := e.sh i d h
    exact ⟨v, a, b.go g⟩
  · obtain ⟨a, b, c, n, r⟩ := e.ow i m d h k
    refine ⟨a, b, c.go g fun o q => x a o q, fun z => ?_, r⟩
    rcases z with z | z
    · exact n z
    · exact c.some (by rw [z]; exact hp)
  · rcases h with h | h
    · exact e'.dom a h
    · rw [h]; exact hq

/-! ### what an expression may change -/
structure Fr (Wa : OS) (q : Bool) (H H' : Hp) : Prop where
  keep : ∀ a o, H a = some o → ¬ Wa a → H' a = some o
  dom : ∀ a, H a ≠ none → H' a ≠ none
  ex : q = true → Ex H H'
theorem Fr.none_back {q : Bool} (f : Fr Wa q H H') {a : Addr} (h : H' a = none) : H a = none := by
  cases e : H a with
  | none => rfl
  | some o => exact absurd h (f.dom a (by rw [e]; simp))
theorem Ex.dom (x : Ex H H') {a : Addr} (h : H a ≠ none) : H' a ≠ none := fun z => by
  cases e : H a with
  | none => exact h e
  | some o => rw [x a o e] at z; cases z
theorem Ex.fr {q : Bool} (x : Ex H H') : Fr Wa q H H' := ⟨fun a o h _ => x a o h, fun a h => x.dom h, fun _ => x⟩
theorem Fr.trans {q q1 q2 : Bool} (f : Fr Wa q1 H H1) (g : Fr Wb q2 H1 H2) (s : ∀ a, Wb a → Wa a) (hq : q = true → q1 = true ∧ q2 = true) : Fr Wa q H H2 where
  keep := fun a o h n => g.keep a o (f.keep a o h n) fun z => n (s a z)
  dom := fun a h => g.dom a (f.dom a h)
  ex := fun h => (f.ex (hq h).1).trans (g.ex (hq h).2)
theorem Fr.lose {q : Bool} (f : Fr Wa q H H') : Fr Wa false H H' := ⟨f.keep, f.dom, fun z => nomatch z⟩

/-- the value of an expression -/
def Res (Ox : OS) (H0 : Hp) (M Wa : OS) (σ : L2.St) (H : Hp) (env : Env) : Val → V → Hp → Prop
  | (.sh, d), v, H' => EvR Ox H0 M env σ H' ∧ Rp H' (All Ox env σ) v d
  | (.bo, d), v, H' => EvR Ox H0 M env σ H' ∧ RpT H' (All Ox env σ) v d
  | (.fr, d), v, H' => ∃ p, v = .ref p ∧ (H p = none ∨ Wa p) ∧ H0 p = none ∧ EvR (plus Ox p) H0 M env σ H' ∧ OwnT H' (All (plus Ox p) env σ) p d
  | (.mu i, d), v, H' => EvR Ox H0 M env σ H' ∧ σ[i]? = some (some v) ∧ ∃ m, getS env i = some (m, d) ∧ m ≠ .sh
/-- what is known of it while others are evaluated -/
def Hold (O : OS) (Ox : OS) (σ : L2.St) (H : Hp) : Val → V → Prop
  | (.sh, d), v => Rp H O v d
  | (.bo, d), v => RpT H O v d
  | (.fr, d), v => ∃ p, v = .ref p ∧ Ox p ∧ OwnT H O p d
  | (.mu i, _), v => σ[i]? = some (some v)
theorem Res.ev {r : Val} {v : V} (h : Res Ox H0 M Wa σ H env r v H1) : ∃ Ox1, (∀ a, Ox a → Ox1 a) ∧ (∀ a, Ox1 a → Ox a ∨ H a = none ∨ Wa a) ∧ EvR Ox1 H0 M env σ H1 ∧ Hold (All Ox1 env σ) Ox1 σ H1 r v := by
  obtain ⟨m, d⟩ := r
  cases m with
  | sh => exact ⟨Ox, fun _ z => z, fun _ z => .inl z, h.1, h.2⟩
  | bo => exact ⟨Ox, fun _ z => z, fun _ z => .inl z, h.1, h.2⟩
  | mu i => exact ⟨Ox, fun _ z => z, fun _ z => .inl z, h.1, h.2.1⟩
  | fr =>
    obtain ⟨p, e, hp, _, hv, ho⟩ := h
    exact ⟨plus Ox p, fun _ z => .inl z, fun a z => z.imp id fun z => by rw [z]; exact hp, hv, p, e, .inr rfl, ho⟩
theorem Res.less {r : Val} {v : V} (h : Res Ox1 H0 M Wb σ H1 env r v H') (s : ∀ a, Ox a → Ox1 a) (n : ∀ a, H1 a = none → H a = none) (w : ∀ a, Wb a → Wa a) : Res Ox H0 M Wa σ H env r v H' := by
  obtain ⟨m, d⟩ := r
  cases m with
  | sh => exact ⟨h.1.less s, h.2.go (Goes1.less fun a z => z.imp (s a) id)⟩
  | bo => exact ⟨h.1.less s, h.2.go (Goes1.less fun a z => z.imp (s a) id) fun _ _ _ q => q⟩
  | mu i => exact ⟨h.1.less s, h.2⟩
  | fr =>
    obtain ⟨p, e, hp, h0, hv, ho⟩ := h
    have s' : ∀ a, plus Ox p a → plus Ox1 p a := fun a z => z.imp (s a) id
    exact ⟨p, e, hp.imp (n p) (w p), h0, hv.less s', ho.go (Goes1.less fun a z => z.imp (s' a) id) fun o q => q⟩
/-- looked at, behind the evaluation of others -/
theorem Hold.top {O2 : OS} {q : Bool} {r : Val} {v : V} {d : D} (h : Hold (All Ox env σ) Ox σ H r v) (e : EvR Ox H0 M env σ H) (hr : rdy r = some d) (f : Fr (WA env σ) q H H2) (hb : inp r = true → q = true)
    (s : ∀ a, O2 a → All Ox env σ a ∨ H a = none) : RpT H2 O2 v d := by
  have g : Goes1 H H2 (All Ox env σ) O2 := ⟨fun a o h n => f.keep a o h fun z => n (.inr z), s⟩
  obtain ⟨m, d'⟩ := r
  cases m with
  | sh => cases hr; exact (Rp.go g h).top
  | bo => cases hr; exact RpT.go g (fun a o _ k => f.ex (hb rfl) a o k) h
  | mu i => cases hr
  | fr =>
    cases hr
    obtain ⟨p, rfl, hp, ho⟩ := h
    exact OwnT.top (ho.go g fun o k => f.keep p o k fun z => (e.owa z).1 hp)
/-- kept, behind the evaluation of others -/
theorem Hold.rp {O2 : OS} {q : Bool} {r : Val} {v : V} {d : D} (h : Hold (All Ox env σ) Ox σ H r v) (e : EvR Ox H0 M env σ H) (hr : low r = some d) (f : Fr (WA env σ) q H H2)
    (s : ∀ a, O2 a → All Ox env σ a ∨ H a = none) (n : r.1 = .fr → ∀ p, v = .ref p → ¬ O2 p) : Rp H2 O2 v d := by
  have g : Goes1 H H2 (All Ox env σ) O2 := ⟨fun a o h n => f.keep a o h fun z => n (.inr z), s⟩
  obtain ⟨m, d'⟩ := r
  cases m with
  | sh => cases hr; exact Rp.go g h
  | bo => cases hr
  | mu i => cases hr
  | fr =>
    cases hr
    obtain ⟨p, rfl, hp, ho⟩ := h
    exact OwnT.rp (ho.go g fun o k => f.keep p o k fun z => (e.owa z).1 hp) (n rfl p rfl)
end

/-! ### readings -/
structure Mo where
  W : WX
  XR : Hp → OS → D → Value → Option Addr → Prop
  mono : ∀ H O O' x c dx, (∀ a, O' a → O a) → XR H O x c dx → XR H O' x c dx

def PostG {α β : Type} (μ : Mo) (Ox : OS) (H0 : Hp) (M Wa : OS) (q : Bool) (σ : L2.St) (H : Hp) (Rs : Env → α → β → Hp → Prop) (Q : β → Hp → Prop) : R α → Prop
  | .ok r env' => ∀ v H', Fr Wa q H H' → (∀ a, WA env' σ a → Wa a) → Rs env' r v H' → Q v H'
  | .exc x env' => ∀ cls dx H', Fr Wa false H H' → (∀ a, WA env' σ a → Wa a) → EvR Ox H0 M env' σ H' → μ.XR H' (All Ox env' σ) x cls dx → μ.W cls dx σ H'
  | .stuck => False
abbrev PostE (μ : Mo) (Ox : OS) (H0 : Hp) (M Wa : OS) (q : Bool) (σ : L2.St) (H : Hp) (Q : VK) : R Val → Prop :=
  PostG μ Ox H0 M Wa q σ H (fun env r v H' => Res Ox H0 M Wa σ H env r v H') Q

section
variable {μ : Mo} {Ox Ox1 : OS} {H0 H H' H1 H2 : Hp} {M Wa Wb : OS} {env env1 env2 : Env} {σ : L2.St}
theorem PostG.bind {α α' β β' : Type} {q qa : Bool} {Rs : Env → α → β → Hp → Prop} {Rs' : Env → α' → β' → Hp → Prop} {Q : β → Hp → Prop} {Q' : β' → Hp → Prop} {m : R α'} {k : α' → Env → R α}
    (h : PostG μ Ox H0 M Wa q σ H Rs Q (m.bind k))
    (hk : ∀ r env1 v H1, m = .ok r env1 → Fr Wa qa H H1 → (∀ a, WA env1 σ a → Wa a) → Rs' env1 r v H1 → PostG μ Ox H0 M Wa q σ H Rs Q (k r env1) → Q' v H1) : PostG μ Ox H0 M Wa qa σ H Rs' Q' m := by
  cases m with
  | ok r env1 => exact fun v H1 f s r1 => hk r env1 v H1 rfl f s r1 h
  | exc x env1 => exact h
  | stuck => exact h.elim
theorem PostG.rebase {α β : Type} {q qa qb : Bool} {Rs Rs1 : Env → α → β → Hp → Prop} {Q : β → Hp → Prop} {m : R α} (h : PostG μ Ox H0 M Wa q σ H Rs Q m) (f : Fr Wa qa H H1) (s : ∀ a, WA env1 σ a → Wa a) (so : ∀ a, Ox a → Ox1 a)
    (hq : q = true → qa = true ∧ qb = true) (hr : ∀ env r v H', (∀ a, H1 a = none → H a = none) → Rs1 env r v H' → Rs env r v H') : PostG μ Ox1 H0 M (WA env1 σ) qb σ H1 Rs1 Q m := by
  cases m with
  | ok r env2 => exact fun v H' f' s' r' => h v H' (f.trans f' s hq) (fun a z => s a (s' a z)) (hr _ _ _ _ (fun a z => f.none_back z) r')
  | exc x env2 => exact fun cls dx H' f' s' e' x' => h cls dx H' (f.lose.trans f' s fun z => nomatch z) (fun a z => s a (s' a z)) (e'.less so) (μ.mono _ _ _ _ _ _ (fun a z => z.imp (so a) id) x')
  | stuck => exact h.elim
theorem PostE.rebase {q qa qb : Bool} {Q : VK} {m : R Val} (h : PostE μ Ox H0 M Wa q σ H Q m) (f : Fr Wa qa H H1) (s : ∀ a, WA env1 σ a → Wa a) (so : ∀ a, Ox a → Ox1 a)
    (hq : q = true → qa = true ∧ qb = true) : PostE μ Ox1 H0 M (WA env1 σ) qb σ H1 Q m :=
  PostG.rebase h f s so hq fun env r v H' n hr => hr.less so n s
/-- the operation's own value goes out -/
theorem glue {q : Bool} {Q : VK} {r : Val} (h : PostE μ Ox H0 M Wa q σ H Q (.ok r env2)) (f : Fr Wa q H H2) (s : ∀ a, WA env2 σ a → Wa a) (e : EvR Ox H0 M env2 σ H2) (hm : r.1 = .sh ∨ r.1 = .fr) : VPost (All Ox env2 σ) H2 Q r := by
  obtain ⟨m, d⟩ := r
  cases m with
  | sh => exact fun v H' x rv => h v H' (f.trans (x.fr (Wa := Wa) (q := true)) (fun _ z => z) fun z => ⟨z, rfl⟩) s ⟨e.ex x, rv⟩
  | fr =>
    refine fun p H' hp x ho => h _ H' (f.trans (x.fr (Wa := Wa) (q := true)) (fun _ z => z) fun z => ⟨z, rfl⟩) s ⟨p, rfl, .inl (f.none_back hp), e.back hp, e.add hp x ho.some, ho.go (Goes1.less fun a z => ?_) fun o k => k⟩
    rcases z with (z | z) | z
    · exact .inl (.inl z)
    · exact .inr z
    · exact .inl (.inr z)
  | bo => rcases hm with z | z <;> cases z
  | mu i => rcases hm with z | z <;> cases z
theorem PostG.nostuck {α β : Type} {q : Bool} {Rs : Env → α → β → Hp → Prop} {Q : β → Hp → Prop} (h : PostG μ Ox H0 M Wa q σ H Rs Q (.stuck : R α)) : False := h
end

def rdE (μ : Mo) (C : Calls) (e : E) : TE := fun σ H Q => ∃ Ox H0 M env, EvR Ox H0 M env σ H ∧ PostE μ Ox H0 M (WA env σ) e.quiet σ H Q (evE C e env)
def rdT (μ : Mo) (C : Calls) (e : E) : TT := fun σ H Q => ∃ Ox H0 M env, EvR Ox H0 M env σ H ∧
  PostE μ Ox H0 M (WA env σ) e.quiet σ H (fun v H' => ∃ b, v = .bl b ∧ Q b H') (evE C e env)
end En
end

section
set_option Elab.async false
set_option linter.all false
set_option maxRecDepth 100000
set_option maxHeartbeats 4000000
namespace En
open PySem PySem.Spec L2
variable [Wd]

/-! ### slots -/
theorem getS_set {env : Env} {i j : Nat} {s : Option (Sm × D)} : getS (setS env i s) j = if j = i ∧ i < env.length then s else getS env j := by
  unfold getS setS
  by_cases h : j = i
  · subst h
    by_cases hl : j < env.length
    · rw [List.getElem?_set_self hl, if_pos ⟨rfl, hl⟩]; cases s <;> rfl
    · rw [List.getElem?_eq_none (by simpa using hl), if_neg (fun z => hl z.2), List.getElem?_eq_none (by simpa using hl)]
  · rw [List.getElem?_set_ne (Ne.symm h), if_neg (fun z => h z.1)]
theorem getS_lt {env : Env} {i : Nat} {s : Sm × D} (h : getS env i = some s) : i < env.length := by
  unfold getS at h
  rcases Nat.lt_or_ge i env.length with k | k
  · exact k
  · rw [List.getElem?_eq_none k] at h; cases h
theorem getS_self {env : Env} {i : Nat} {s : Option (Sm × D)} (h : i < env.length) : getS (setS env i s) i = s := by rw [getS_set, if_pos ⟨rfl, h⟩]
theorem getS_ne {env : Env} {i j : Nat} {s : Option (Sm × D)} (h : j ≠ i) : getS (setS env i s) j = getS env j := by rw [getS_set, if_neg fun z => h z.1]
theorem isOw_ne {env : Env} {i j : Nat} {s : Option (Sm × D)} (h : j ≠ i) : isOw (setS env i s) j = isOw env j := by unfold isOw; rw [getS_ne h]
theorem isOw_sh {env : Env} {i : Nat} {d : D} (h : i < env.length) : isOw (setS env i (some (.sh, d))) i = false := by unfold isOw; rw [getS_self h]
theorem isOw_no {env : Env} {i : Nat} (h : i < env.length) : isOw (setS env i none) i = false := by unfold isOw; rw [getS_self h]
theorem isOw_of {env : Env} {i : Nat} {m : Sm} {d : D} (h : getS env i = some (m, d)) (k : m ≠ .sh) : isOw env i = true := isOw_iff.mpr ⟨m, d, h, k⟩

section
variable {Ox Ox1 : OS} {H0 H H' H1 H2 : Hp} {M Wa Wb : OS} {env env1 env2 : Env} {σ : L2.St} {i : Nat} {d : D} {v : V} {p : Addr}
theorem WA_set_sh (hi : i < env.length) {w : Option V} : ∀ a, WA (setS env i (some (.sh, d))) (σ.set i w) a → WA env σ a := fun a ⟨j, hj, hs⟩ => by
  by_cases e : j = i
  · subst e; rw [isOw_sh hi] at hj; cases hj
  · rw [isOw_ne e] at hj; rw [List.getElem?_set_ne (Ne.symm e)] at hs; exact ⟨j, hj, hs⟩
theorem WA_sh (hi : i < env.length) : ∀ a, WA (setS env i (some (.sh, d))) σ a → WA env σ a := fun a ⟨j, hj, hs⟩ => by
  by_cases e : j = i
  · subst e; rw [isOw_sh hi] at hj; cases hj
  · rw [isOw_ne e] at hj; exact ⟨j, hj, hs⟩
theorem WA_no (hi : i < env.length) : ∀ a, WA (setS env i none) σ a → WA env σ a := fun a ⟨j, hj, hs⟩ => by
  by_cases e : j = i
  · subst e; rw [isOw_no hi] at hj; cases hj
  · rw [isOw_ne e] at hj; exact ⟨j, hj, hs⟩
/-- name = a shared value -/
theorem EvR.put (e : EvR Ox H0 M env σ H) (hi : i < env.length) (r : Rp H (All Ox env σ) v d) : EvR Ox H0 M (setS env i (some (.sh, d))) (σ.set i (some v)) H := by
  have w := WA_set_sh (σ := σ) (d := d) (w := some v) hi
  have g : Goes1 H H (All Ox env σ) (All Ox (setS env i (some (.sh, d))) (σ.set i (some v))) := Goes1.less fun a z => z.imp id (w a)
  have hσ : i < σ.length := by rw [← e.len]; exact hi
  refine ⟨by unfold setS; rw [List.length_set, List.length_set]; exact e.len, fun j d' h => ?_, fun j m d' h k => ?_, fun j k a hj hk sj sk => ?_, e.pres, e.dom, e.mdom⟩
  · by_cases ej : j = i
    · subst ej
      rw [getS_self hi] at h
      cases h
      exact ⟨v, by rw [List.getElem?_set_self hσ], r.go g⟩
    · rw [getS_ne ej] at h
      obtain ⟨u, a, b⟩ := e.sh j d' h
      exact ⟨u, by rw [List.getElem?_set_ne (Ne.symm ej)]; exact a, b.go g⟩
  · by_cases ej : j = i
    · subst ej
      rw [getS_self hi] at h
      cases h
      exact absurd rfl k
    · rw [getS_ne ej] at h
      obtain ⟨a, b, c, n⟩ := e.ow j m d' h k
      exact ⟨a, by rw [List.getElem?_set_ne (Ne.symm ej)]; exact b, c.go g fun o q => q, n⟩
  · have nj : j ≠ i := fun z => by subst z; rw [isOw_sh hi] at hj; cases hj
    have nk : k ≠ i := fun z => by subst z; rw [isOw_sh hi] at hk; cases hk
    rw [isOw_ne nj] at hj
    rw [isOw_ne nk] at hk
    rw [List.getElem?_set_ne (Ne.symm nj)] at sj
    rw [List.getElem?_set_ne (Ne.symm nk)] at sk
    exact e.inj j k a hj hk sj sk
/-- an owned name is given up -/
theorem EvR.freeze (e : EvR Ox H0 M env σ H) {m : Sm} (h : getS env i = some (m, d)) (hm : m ≠ .sh) : EvR Ox H0 M (setS env i (some (.sh, d))) σ H ∧ ∃ a, σ[i]? = some (some (.ref a)) ∧ Rp H (All Ox (setS env i (some (.sh, d))) σ) (.ref a) d := by
  have hi := getS_lt h
  obtain ⟨a, sa, oa, na, _⟩ := e.ow i m d h hm
  have w := WA_sh (σ := σ) (d := d) hi
  have g : Goes1 H H (All Ox env σ) (All Ox (setS env i (some (.sh, d))) σ) := Goes1.less fun b z => z.imp id (w b)
  have nA : ¬ All Ox (setS env i (some (.sh, d))) σ a := fun z => by
    rcases z with z | ⟨j, hj, sj⟩
    · exact na z
    · have nj : j ≠ i := fun z => by subst z; rw [isOw_sh hi] at hj; cases hj
      rw [isOw_ne nj] at hj
      exact nj (e.inj j i a hj (isOw_of h hm) sj sa)
  have rr : Rp H (All Ox (setS env i (some (.sh, d))) σ) (.ref a) d := (oa.go g fun o q => q).rp nA
  refine ⟨⟨by unfold setS; rw [List.length_set]; exact e.len, fun j d' h' => ?_, fun j m d' h' k => ?_, fun j k a hj hk sj sk => ?_, e.pres, e.dom, e.mdom⟩, a, sa, rr⟩
  · by_cases ej : j = i
    · subst ej
      rw [getS_self hi] at h'
      cases h'
      exact ⟨.ref a, sa, rr⟩
    · rw [getS_ne ej] at h'
      obtain ⟨u, a, b⟩ := e.sh j d' h'
      exact ⟨u, a, b.go g⟩
  · by_cases ej : j = i
    · subst ej
      rw [getS_self hi] at h'
      cases h'
      exact absurd rfl k
    · rw [getS_ne ej] at h'
      obtain ⟨a, b, c, n⟩ := e.ow j m d' h' k
      exact ⟨a, b, c.go g fun o q => q, n⟩
  · have nj : j ≠ i := fun z => by subst z; rw [isOw_sh hi] at hj; cases hj
    have nk : k ≠ i := fun z => by subst z; rw [isOw_sh hi] at hk; cases hk
    rw [isOw_ne nj] at hj
    rw [isOw_ne nk] at hk
    exact e.inj j k a hj hk sj sk
/-- an owned name's thing is taken out -/
theorem EvR.take (e : EvR Ox H0 M env σ H) (h : getS env i = some (.ow, d)) : ∃ a, σ[i]? = some (some (.ref a)) ∧ WA env σ a ∧ H0 a = none ∧ EvR (plus Ox a) H0 M (setS env i none) σ H ∧ OwnT H (All (plus Ox a) (setS env i none) σ) a d := by
  have hi := getS_lt h
  have hm : Sm.ow ≠ .sh := by decide
  obtain ⟨a, sa, oa, na, h0, _⟩ := e.ow i .ow d h hm
  have w := WA_no (σ := σ) hi
  have wa : WA env σ a := ⟨i, isOw_of h hm, sa⟩
  have g : Goes1 H H (All Ox env σ) (All (plus Ox a) (setS env i none) σ) := Goes1.less fun b z => by
    rcases z with (z | z) | z
    · exact .inl z
    · rw [z]; exact .inr wa
    · exact .inr (w b z)
  refine ⟨a, sa, wa, h0 rfl, ⟨by unfold setS; rw [List.length_set]; exact e.len, fun j d' h' => ?_, fun j m d' h' k => ?_, fun j k b hj hk sj sk => ?_, e.pres, fun b z => ?_, e.mdom⟩, oa.go g fun o q => q⟩
  · by_cases ej : j = i
    · subst ej; rw [getS_self hi] at h'; cases h'
    · rw [getS_ne ej] at h'
      obtain ⟨u, a, b⟩ := e.sh j d' h'
      exact ⟨u, a, b.go g⟩
  · by_cases ej : j = i
    · subst ej; rw [getS_self hi] at h'; cases h'
    · rw [getS_ne ej] at h'
      obtain ⟨b, sb, c, n, r⟩ := e.ow j m d' h' k
      refine ⟨b, sb, c.go g fun o q => q, fun z => ?_, r⟩
      rcases z with z | z
      · exact n z
      · exact ej (e.inj j i a (isOw_of h' k) (isOw_of h hm) (by rw [← z]; exact sb) sa)
  · have nj : j ≠ i := fun z => by subst z; rw [isOw_no hi] at hj; cases hj
    have nk : k ≠ i := fun z => by subst z; rw [isOw_no hi] at hk; cases hk
    rw [isOw_ne nj] at hj
    rw [isOw_ne nk] at hk
    exact e.inj j k b hj hk sj sk
  · rcases z with z | z
    · exact e.dom b z
    · rw [z]; exact oa.some
/-- name = a fresh thing, owned -/
theorem EvR.putOw (e : EvR (plus Ox p) H0 M env σ H) (hi : i < env.length) (nx : ¬ Ox p) (h0 : H0 p = none) (ho : OwnT H (All (plus Ox p) env σ) p d) : EvR Ox H0 M (setS env i (some (.ow, d))) (σ.set i (some (.ref p))) H := by
  have hσ : i < σ.length := by rw [← e.len]; exact hi
  have w : ∀ a, WA (setS env i (some (.ow, d))) (σ.set i (some (.ref p))) a → WA env σ a ∨ a = p := fun a ⟨j, hj, hs⟩ => by
    by_cases ej : j = i
    · subst ej
      rw [List.getElem?_set_self hσ] at hs
      exact .inr (by cases hs; rfl)
    · rw [isOw_ne ej] at hj; rw [List.getElem?_set_ne (Ne.symm ej)] at hs; exact .inl ⟨j, hj, hs⟩
  have g : Goes1 H H (All (plus Ox p) env σ) (All Ox (setS env i (some (.ow, d))) (σ.set i (some (.ref p)))) := Goes1.less fun a z => by
    rcases z with z | z
    · exact .inl (.inl z)
    · rcases w a z with z | z
      · exact .inr z
      · exact .inl (.inr z)
  refine ⟨by unfold setS; rw [List.length_set, List.length_set]; exact e.len, fun j d' h => ?_, fun j m d' h k => ?_, fun j k a hj hk sj sk => ?_, e.pres, fun a z => e.dom a (.inl z), e.mdom⟩
  · by_cases ej : j = i
    · subst ej; rw [getS_self hi] at h; cases h
    · rw [getS_ne ej] at h
      obtain ⟨u, a, b⟩ := e.sh j d' h
      exact ⟨u, by rw [List.getElem?_set_ne (Ne.symm ej)]; exact a, b.go g⟩
  · by_cases ej : j = i
    · subst ej
      rw [getS_self hi] at h
      cases h
      exact ⟨p, by rw [List.getElem?_set_self hσ], ho.go g fun o q => q, nx, fun _ => h0, fun z => nomatch z⟩
    · rw [getS_ne ej] at h
      obtain ⟨a, b, c, n, r⟩ := e.ow j m d' h k
      exact ⟨a, by rw [List.getElem?_set_ne (Ne.symm ej)]; exact b, c.go g fun o q => q, fun z => n (.inl z), r⟩
  · by_cases ej : j = i
    · by_cases ek : k = i
      · rw [ej, ek]
      · exfalso
        subst ej
        rw [List.getElem?_set_self hσ] at sj
        cases sj
        rw [isOw_ne ek] at hk
        rw [List.getElem?_set_ne (Ne.symm ek)] at sk
        exact (e.owa ⟨k, hk, sk⟩).1 (.inr rfl)
    · by_cases ek : k = i
      · exfalso
        subst ek
        rw [List.getElem?_set_self hσ] at sk
        cases sk
        rw [isOw_ne ej] at hj
        rw [List.getElem?_set_ne (Ne.symm ej)] at sj
        exact (e.owa ⟨j, hj, sj⟩).1 (.inr rfl)
      · rw [isOw_ne ej] at hj
        rw [isOw_ne ek] at hk
        rw [List.getElem?_set_ne (Ne.symm ej)] at sj
        rw [List.getElem?_set_ne (Ne.symm ek)] at sk
        exact e.inj j k a hj hk sj sk
/-- an owned thing is changed -/
theorem EvR.write (e : EvR Ox H0 M env σ H) {m : Sm} {d' : D} {a : Addr} (h : getS env i = some (m, d)) (hm : m ≠ .sh) (sa : σ[i]? = some (some (.ref a))) (kp : ∀ b u, b ≠ a → H b = some u → H' b = some u)
    (ho : OwnT H' (All Ox env σ) a d') : EvR Ox H0 M (setS env i (some (m, d'))) σ H' ∧ (∀ b, WA (setS env i (some (m, d'))) σ b ↔ WA env σ b) := by
  have hi := getS_lt h
  have hO : isOw (setS env i (some (m, d'))) i = true := isOw_of (getS_self hi) hm
  have w : ∀ b, WA (setS env i (some (m, d'))) σ b ↔ WA env σ b := fun b => ⟨fun ⟨j, hj, hs⟩ => by
    by_cases ej : j = i
    · subst ej; exact ⟨j, isOw_of h hm, hs⟩
    · rw [isOw_ne ej] at hj; exact ⟨j, hj, hs⟩, fun ⟨j, hj, hs⟩ => by
    by_cases ej : j = i
    · subst ej; exact ⟨j, hO, hs⟩
    · exact ⟨j, by rw [isOw_ne ej]; exact hj, hs⟩⟩
  have wa : WA env σ a := ⟨i, isOw_of h hm, sa⟩
  have g : Goes1 H H' (All Ox env σ) (All Ox (setS env i (some (m, d'))) σ) := ⟨fun b u q n => kp b u (fun z => n (by rw [z]; exact .inr wa)) q, fun b z => .inl (z.imp id (w b).mp)⟩
  have g2 : Goes1 H' H' (All Ox env σ) (All Ox (setS env i (some (m, d'))) σ) := Goes1.less fun b z => z.imp id (w b).mp
  obtain ⟨a', sa', oa, na, r0⟩ := e.ow i m d h hm
  rw [sa] at sa'
  have ea := Option.some.inj (Option.some.inj sa')
  cases ea
  have up : ∀ b, H b ≠ none → H' b ≠ none := fun b hb => by
    by_cases q : b = a
    · rw [q]; exact ho.some
    · intro z
      cases hu : H b with
      | none => exact hb hu
      | some u => rw [kp b u q hu] at z; cases z
  refine ⟨⟨by unfold setS; rw [List.length_set]; exact e.len, fun j d1 h' => ?_, fun j m1 d1 h' k => ?_, fun j k b hj hk sj sk => ?_, fun b u q n => ?_, fun b z => up b (e.dom b z), fun b z => up b (e.mdom b z)⟩, w⟩
  · by_cases ej : j = i
    · subst ej
      rw [getS_self hi] at h'
      cases h'
      exact absurd rfl hm
    · rw [getS_ne ej] at h'
      obtain ⟨u, b, c⟩ := e.sh j d1 h'
      exact ⟨u, b, c.go g⟩
  · by_cases ej : j = i
    · subst ej
      rw [getS_self hi] at h'
      cases h'
      exact ⟨a, sa, ho.go g2 fun o q => q, na, r0⟩
    · rw [getS_ne ej] at h'
      obtain ⟨b, sb, c, n, r⟩ := e.ow j m1 d1 h' k
      refine ⟨b, sb, c.go g fun o q => kp b o (fun z => ?_) q, n, r⟩
      exact ej (e.inj j i a (isOw_of h' k) (isOw_of h hm) (by rw [← z]; exact sb) sa)
  · have ow' : ∀ x, isOw (setS env i (some (m, d'))) x = true → isOw env x = true := fun x hx => by
      by_cases ex : x = i
      · subst ex; exact isOw_of h hm
      · rw [isOw_ne ex] at hx; exact hx
    exact e.inj j k b (ow' j hj) (ow' k hk) sj sk
  · refine kp b u (fun z => ?_) (e.pres b u q n)
    subst z
    cases m with
    | sh => exact hm rfl
    | ow => have := r0.1 rfl; rw [q] at this; cases this
    | mu => exact n (r0.2 rfl)
end

/-! ### names, constants -/
theorem _root_.L2.PE.imp {X : Cx} {e : Expr} {t t' : TE} (h : PE X e t) (k : ∀ σ H Q, t' σ H Q → t σ H Q) : PE X e t' := ⟨fun pins s σ H Q I q => h.run pins s σ H Q I (k σ H Q q)⟩
theorem _root_.L2.PT.imp {X : Cx} {e : Expr} {t t' : TT} (h : PT X e t) (k : ∀ σ H Q, t' σ H Q → t σ H Q) : PT X e t' := ⟨fun pins s σ H Q I q => h.run pins s σ H Q I (k σ H Q q)⟩
theorem _root_.L2.PW.imp {X : Cx} {e : Expr} {t t' : TT} (h : PW X e t) (k : ∀ σ H Q, t' σ H Q → t σ H Q) : PW X e t' := ⟨fun wh pins s σ H Q I q => h.run wh pins s σ H Q I (k σ H Q q)⟩
theorem _root_.L2.PA.imp {X : Cx} {e : List Expr} {t t' : TA} (h : PA X e t) (k : ∀ σ H Q, t' σ H Q → t σ H Q) : PA X e t' := ⟨fun pos pins s σ H Q I q => h.run pos pins s σ H Q I (k σ H Q q)⟩
theorem _root_.L2.PS.imp {X : Cx} {e : Stmt} {t t' : TS} (h : PS X e t) (k : ∀ D σ H, t' D σ H → t D σ H) : PS X e t' := ⟨fun pins s σ H D I q => h.run pins s σ H D I (k D σ H q)⟩
theorem _root_.L2.PSs.imp {X : Cx} {e : List Stmt} {t t' : TS} (h : PSs X e t) (k : ∀ D σ H, t' D σ H → t D σ H) : PSs X e t' := ⟨fun pins s σ H D I q => h.run pins s σ H D I (k D σ H q)⟩

section
variable {μ : Mo} {C : Calls} {σ : L2.St} {H : Hp} {Q : VK} {i : Nat}
theorem rd_var (h : rdE μ C (.var i) σ H Q) : tVar i σ H Q := by
  obtain ⟨Ox, H0, M, env, e, h⟩ := h
  simp only [evE] at h
  split at h
  · rename_i d hg
    obtain ⟨v, hv, r⟩ := e.sh i d hg
    exact ⟨v, hv, h v H (Ex.fr Ex.rfl') (fun _ z => z) ⟨e, r⟩⟩
  · exact h.elim
theorem rd_own (h : rdE μ C (.own i) σ H Q) : tVar i σ H Q := by
  obtain ⟨Ox, H0, M, env, e, h⟩ := h
  simp only [evE] at h
  split at h
  · rename_i d hg
    obtain ⟨v, hv, r⟩ := e.sh i d hg
    exact ⟨v, hv, h v H (Ex.fr Ex.rfl') (fun _ z => z) ⟨e, r⟩⟩
  · rename_i m d hn hg
    have hm : m ≠ .sh := hn
    obtain ⟨a, sa, oa, _⟩ := e.ow i m d hg hm
    exact ⟨_, sa, h _ H (Ex.fr Ex.rfl') (fun _ z => z) ⟨e, oa.top⟩⟩
  · exact h.elim
theorem rd_fz (h : rdE μ C (.fz i) σ H Q) : tVar i σ H Q := by
  obtain ⟨Ox, H0, M, env, e, h⟩ := h
  simp only [evE] at h
  split at h
  · rename_i d hg
    obtain ⟨v, hv, r⟩ := e.sh i d hg
    exact ⟨v, hv, h v H (Ex.fr Ex.rfl') (fun _ z => z) ⟨e, r⟩⟩
  · rename_i d hg
    obtain ⟨e', a, sa, r⟩ := e.freeze hg (by decide)
    exact ⟨_, sa, h _ H (Ex.fr Ex.rfl') (WA_sh (getS_lt hg)) ⟨e', r⟩⟩
  · exact h.elim
theorem rd_mv (h : rdE μ C (.mv i) σ H Q) : tVar i σ H Q := by
  obtain ⟨Ox, H0, M, env, e, h⟩ := h
  simp only [evE] at h
  split at h
  · rename_i d hg
    obtain ⟨a, sa, wa, h0, e', r⟩ := e.take hg
    exact ⟨_, sa, h _ H (Ex.fr Ex.rfl') (WA_no (getS_lt hg)) ⟨a, rfl, .inr wa, h0, e', r⟩⟩
  · exact h.elim
theorem rd_mut (h : rdE μ C (.mut i) σ H Q) : tVar i σ H Q := by
  obtain ⟨Ox, H0, M, env, e, h⟩ := h
  simp only [evE] at h
  split at h
  · rename_i d hg
    obtain ⟨a, sa, _⟩ := e.ow i .ow d hg (by decide)
    exact ⟨_, sa, h _ H (Ex.fr Ex.rfl') (fun _ z => z) ⟨e, sa, .ow, hg, by decide⟩⟩
  · rename_i d hg
    obtain ⟨a, sa, _⟩ := e.ow i .mu d hg (by decide)
    exact ⟨_, sa, h _ H (Ex.fr Ex.rfl') (fun _ z => z) ⟨e, sa, .mu, hg, by decide⟩⟩
  · exact h.elim
/-- a flat constant -/
def flatD : D → Option V
  | .non => some .non
  | .bl b => some (.bl b)
  | .int i => some (.int i)
  | .str x => some (.str x)
  | _ => none
theorem flat_rp {d : D} {v : V} {O : OS} (h : flatD d = some v) : Rp H O v d := by
  cases d with
  | non => cases h; exact .non
  | bl b => cases h; exact .bl b
  | int b => cases h; exact .int b
  | str b => cases h; exact .str b
  | _ => cases h
theorem rd_lit {d : D} {v : V} (hd : flatD d = some v) (h : rdE μ C (.lit d) σ H Q) : tC v σ H Q := by
  obtain ⟨Ox, H0, M, env, e, h⟩ := h
  simp only [evE] at h
  exact h v H (Ex.fr Ex.rfl') (fun _ z => z) ⟨e, flat_rp hd⟩
theorem rd_gl {x : Str} {d : D} {v : V} (hd : flatD d = some v) (h : rdE μ C (.gl x d) σ H Q) : tC v σ H Q := by
  obtain ⟨Ox, H0, M, env, e, h⟩ := h
  simp only [evE] at h
  exact h v H (Ex.fr Ex.rfl') (fun _ z => z) ⟨e, flat_rp hd⟩
end

/-! ### one operand, two operands -/
section
variable {μ : Mo} {C : Calls} {σ : L2.St} {H : Hp} {Q : VK} {a b : E}
theorem mode_map {α : Type} {x : Option α} {f : α → Val} {r : Val} (h : x.map f = some r) (k : ∀ a, (f a).1 = .sh ∨ (f a).1 = .fr) : r.1 = .sh ∨ r.1 = .fr := by
  obtain ⟨a, _, rfl⟩ := Option.map_eq_some_iff.mp h; exact k a
theorem mode_ite {c : Prop} [Decidable c] {x : Val} {r : Val} (h : (if c then some x else none) = some r) (k : x.1 = .sh ∨ x.1 = .fr) : r.1 = .sh ∨ r.1 = .fr := by
  split at h
  · cases h; exact k
  · cases h
theorem mode_bind {α : Type} {x : Option α} {f : α → Option Val} {r : Val} (h : x.bind f = some r) (k : ∀ a r, f a = some r → r.1 = .sh ∨ r.1 = .fr) : r.1 = .sh ∨ r.1 = .fr := by
  obtain ⟨a, _, e⟩ := Option.bind_eq_some_iff.mp h; exact k a r e
theorem mode1 {o : U1} {d : D} {r : Val} (h : op1 o d = some r) : r.1 = .sh ∨ r.1 = .fr := by
  cases o <;> cases d <;> simp only [op1] at h <;> first
    | (cases h; done)
    | (cases h; exact .inl rfl)
    | (cases h; exact .inr rfl)
    | (obtain ⟨_, _, rfl⟩ := Option.map_eq_some_iff.mp h; first | exact .inl rfl | exact .inr rfl)
    | (split at h <;> first | (cases h; done) | (cases h; first | exact .inl rfl | exact .inr rfl))
    | (obtain ⟨ns, _, h⟩ := Option.bind_eq_some_iff.mp h; split at h <;> first | (cases h; done) | (cases h; first | exact .inl rfl | exact .inr rfl))
theorem mode_ints {f : Int → Int → Option Val} {d e : D} {r : Val} (h : onInts f d e = some r) (k : ∀ i j r, f i j = some r → r.1 = .sh ∨ r.1 = .fr) : r.1 = .sh ∨ r.1 = .fr := by
  cases d <;> cases e <;> first
    | (cases h; done)
    | exact k _ _ r h
theorem mode2 {o : U2} {d e : D} {r : Val} (h : op2 o d e = some r) : r.1 = .sh ∨ r.1 = .fr := by
  cases o with
  | add => cases d <;> cases e <;> first
    | (cases h; done)
    | (cases h; exact .inl rfl)
    | exact mode_ite h (.inl rfl)
    | exact mode_ite h (.inr rfl)
  | sub => exact mode_ints h fun i j r q => by cases q; exact .inl rfl
  | mul => cases d <;> cases e <;> simp only [op2, opMul] at h <;> first
    | (cases h; done)
    | exact mode_ite h (.inl rfl)
  | fdiv => exact mode_ints h fun i j r q => mode_ite q (.inl rfl)
  | mod => exact mode_ints h fun i j r q => mode_ite q (.inl rfl)
  | pow => exact mode_ints h fun i j r q => mode_ite q (.inl rfl)
  | eq => simp only [op2, opEq] at h; split at h <;> exact mode_ite h (.inl rfl)
  | ne => simp only [op2, opEq] at h; split at h <;> exact mode_ite h (.inl rfl)
  | lt => exact mode_ints h fun i j r q => by cases q; exact .inl rfl
  | le => exact mode_ints h fun i j r q => by cases q; exact .inl rfl
  | gt => exact mode_ints h fun i j r q => by cases q; exact .inl rfl
  | max => exact mode_ints h fun i j r q => by cases q; exact .inl rfl
  | min => exact mode_ints h fun i j r q => by cases q; exact .inl rfl
  | ge => cases d <;> cases e <;> first
    | (cases h; done)
    | (cases h; exact .inl rfl)
    | exact mode_bind h fun _ _ q => mode_map q fun _ => .inl rfl
  | inn => simp only [op2, opIn] at h; repeat' split at h
           all_goals first | (cases h; done) | (cases h; exact .inl rfl)
  | nin => simp only [op2, opIn] at h; repeat' split at h
           all_goals first | (cases h; done) | (cases h; exact .inl rfl)
  | idx => simp only [op2, opIdx] at h; split at h <;> first
    | (cases h; done)
    | exact mode_map h fun _ => .inl rfl
    | (split at h <;> first | (cases h; done) | exact mode_map h fun _ => .inl rfl)
  | index => cases d <;> cases e <;> simp only [op2] at h <;> first
    | (cases h; done)
    | exact mode_bind h fun _ _ q => mode_map q fun _ => .inl rfl
theorem rd_un {o : U1} (h : rdE μ C (.un o a) σ H Q) : rdE μ C a σ H fun x H1 => q1 o x H1 Q := by
  obtain ⟨Ox, H0, M, env, e, h⟩ := h
  refine ⟨Ox, H0, M, env, e, PostG.bind (by simp only [evE] at h; exact h) fun r env1 v H1 _ f s rs h1 => ?_⟩
  obtain ⟨Ox1, so, _, e1, hd⟩ := rs.ev
  cases hr : rdy r with
  | none => rw [hr] at h1; exact h1.elim
  | some d =>
    rw [hr] at h1
    cases ho : op1 o d with
    | none => simp only [ho, ofO] at h1; exact h1.elim
    | some w =>
      simp only [ho, ofO] at h1
      have e2 := e1.less so
      refine ⟨All Ox env1 σ, d, w, e2.domA, hd.top e1 hr (Ex.fr Ex.rfl' (q := true)) (fun _ => rfl) (fun a z => .inl (z.imp (so a) id)), ho, glue h1 f s e2 (mode1 ho)⟩
/-- two operands; of a method, the first one a list -/
theorem rd_bin2 {o : U2} (h : rdE μ C (.bin o a b) σ H Q) : rdE μ C a σ H fun x H1 => (o = .index → ∃ p vs, x = .ref p ∧ Rd H1 p (.lst vs)) ∧ rdE μ C b σ H1 fun y H2 => q2 o x y H2 Q := by
  obtain ⟨Ox, H0, M, env, e, h⟩ := h
  refine ⟨Ox, H0, M, env, e, PostG.bind (by simp only [evE] at h; exact h) fun r env1 v H1 _ f s rs h1 => ?_⟩
  obtain ⟨Ox1, so, sb, e1, hd⟩ := rs.ev
  split at h1
  · exact h1.elim
  rename_i hix
  refine ⟨fun ho => ?_, ?_⟩
  · subst ho
    have hl : isLV r = true := by simpa using hix
    unfold isLV at hl
    split at hl
    · rename_i ds hr
      obtain ⟨p, vs, rfl, hp, _⟩ := hd.top (O2 := All Ox1 env1 σ) e1 hr (Ex.fr Ex.rfl' (q := true)) (fun _ => rfl) fun _ z => .inl z
      exact ⟨p, vs, rfl, hp⟩
    · cases hl
  refine ⟨Ox1, H0, M, env1, e1, PostG.bind (PostE.rebase (qb := b.quiet) h1 f s so (by simp [E.quiet])) fun r2 env2 w H2 _ f2 s2 rs2 h2 => ?_⟩
  obtain ⟨Ox2, so2, sb2, e2, hd2⟩ := rs2.ev
  split at h2
  · exact h2.elim
  · rename_i hq
    cases hr : rdy r with
    | none => simp only [hr] at h2; exact h2.elim
    | some d =>
      cases hr2 : rdy r2 with
      | none => simp only [hr, hr2] at h2; exact h2.elim
      | some d2 =>
        simp only [hr, hr2] at h2
        cases ho : op2 o d d2 with
        | none => simp only [ho, ofO] at h2; exact h2.elim
        | some z =>
          simp only [ho, ofO] at h2
          have e3 := (e2.less so2)
          refine ⟨All Ox1 env2 σ, d, d2, z, e3.domA, hd.top e1 hr f2 (fun hb => ?_) (fun a z => .inl (z.imp id (s2 a))), hd2.top e2 hr2 (Ex.fr Ex.rfl' (q := true)) (fun _ => rfl) (fun a z => .inl (z.imp (so2 a) id)), ho,
            glue h2 f2 s2 e3 (mode2 ho)⟩
          cases hbq : b.quiet with
          | true => rfl
          | false => exact absurd (by rw [hb, hbq]; rfl) hq
theorem rd_bin {o : U2} (h : rdE μ C (.bin o a b) σ H Q) : rdE μ C a σ H fun x H1 => rdE μ C b σ H1 fun y H2 => q2 o x y H2 Q := by
  obtain ⟨Ox, H0, M, env, e, h⟩ := rd_bin2 h
  refine ⟨Ox, H0, M, env, e, ?_⟩
  cases hm : evE C a env with
  | ok r env1 => rw [hm] at h; exact fun v H1 f s rs => (h v H1 f s rs).2
  | exc x env1 => rw [hm] at h; exact h
  | stuck => rw [hm] at h; exact h
end
end En
end

section
set_option Elab.async false
set_option linter.all false
set_option maxRecDepth 100000
set_option maxHeartbeats 4000000
namespace En
open PySem PySem.Spec L2
variable [Wd]

theorem Rp.ofBl {H : Hp} {O : OS} {v : V} {b : Bool} (h : Rp H O v (.bl b)) : v = .bl b := by cases h; rfl
theorem Rp.ofInt {H : Hp} {O : OS} {v : V} {b : Int} (h : Rp H O v (.int b)) : v = .int b := by cases h; rfl
theorem Rp.ofStr {H : Hp} {O : OS} {v : V} {b : Str} (h : Rp H O v (.str b)) : v = .str b := by cases h; rfl
theorem Rp.ofNon {H : Hp} {O : OS} {v : V} (h : Rp H O v .non) : v = .non := by cases h; rfl

section
variable {μ : Mo} {C : Calls} {σ : L2.St} {H : Hp} {Q : VK} {a b c : E}

/-! ### slices -/
def rdO (μ : Mo) (C : Calls) : E → TO
  | .nix => tNoPart
  | e => tPart (rdE μ C e)
theorem rd_O {Ox : OS} {H0 : Hp} {M : OS} {env : Env} {Q' : Option Int → Hp → Prop} (e : EvR Ox H0 M env σ H)
    (h : PostG μ Ox H0 M (WA env σ) a.quiet σ H (fun env' o o' H' => o' = o ∧ EvR Ox H0 M env' σ H') Q' (evO (evE C a) a env)) : rdO μ C a σ H Q' := by
  have go : ∀ (h : PostG μ Ox H0 M (WA env σ) a.quiet σ H (fun env' o o' H' => o' = o ∧ EvR Ox H0 M env' σ H') Q' ((evE C a env).bind fun v env => match v with
    | (.sh, .int i) => .ok (some i) env
    | _ => .stuck)), tPart (rdE μ C a) σ H Q' := fun h => by
    refine ⟨Ox, H0, M, env, e, PostG.bind h fun r env1 v H1 hm f s rs h1 => ?_⟩
    split at h1
    · rename_i i
      exact ⟨i, rs.2.ofInt, h1 (some i) H1 f s ⟨rfl, rs.1⟩⟩
    · exact h1.elim
  cases a with
  | nix => exact h none H (Ex.fr Ex.rfl') (fun _ z => z) ⟨rfl, e⟩
  | _ => exact go h
theorem modeS {d : D} {l h : Option Int} {r : Val} (e : opSl d l h = some r) : r.1 = .sh ∨ r.1 = .fr := by
  cases d <;> first
    | (cases e; done)
    | (cases e; exact .inl rfl)
    | (cases e; exact .inr rfl)
    | exact mode_ite e (.inl rfl)
theorem rd_sl (h : rdE μ C (.sl a b c) σ H Q) : tSl qS (rdE μ C a) (rdO μ C b) (rdO μ C c) σ H Q := by
  obtain ⟨Ox, H0, M, env, e, h⟩ := h
  refine ⟨Ox, H0, M, env, e, PostG.bind (by simp only [evE] at h; exact h) fun r env1 v H1 hm f s rs h1 => ?_⟩
  obtain ⟨Ox1, so, sb, e1, hd⟩ := rs.ev
  have hq : (E.sl a b c).quiet = true → a.quiet = true ∧ (b.quiet && c.quiet) = true := by simp [E.quiet]; intro x y z; exact ⟨x, y, z⟩
  refine rd_O e1 (PostG.bind (PostE.rebase (qb := b.quiet && c.quiet) h1 f s so hq) fun l env2 l' H2 hm2 f2 s2 rs2 h2 => ?_)
  obtain ⟨rfl, e2⟩ := rs2
  refine rd_O e2 (PostG.bind (PostE.rebase (qb := c.quiet) h2 f2 s2 (fun _ z => z) (by simp)) fun u env3 u' H3 hm3 f3 s3 rs3 h3 => ?_)
  obtain ⟨rfl, e3⟩ := rs3
  split at h3
  · exact h3.elim
  · rename_i hn
    cases hr : rdy r with
    | none => simp only [hr] at h3; exact h3.elim
    | some d =>
      simp only [hr] at h3
      cases ho : opSl d l' u' with
      | none => simp only [ho, ofO] at h3; exact h3.elim
      | some z =>
        simp only [ho, ofO] at h3
        have f23 : Fr (WA env1 σ) (b.quiet && c.quiet) H1 H3 := f2.trans f3 s2 (by simp)
        refine ⟨All Ox1 env3 σ, d, z, e3.domA, hd.top e1 hr f23 (fun hb => ?_) (fun a z => .inl (z.imp id fun z => s2 a (s3 a z))), ho, glue h3 f3 s3 e3 (modeS ho)⟩
        cases hbq : (b.quiet && c.quiet) with
        | true => rfl
        | false => exact absurd (by rw [hb, hbq]; rfl) hn

/-! ### truth -/
theorem bl_of {Ox : OS} {H0 : Hp} {M Wa : OS} {env : Env} {H' : Hp} {v : V} {b : Bool} (h : Res Ox H0 M Wa σ H env (.sh, .bl b) v H') : v = .bl b ∧ EvR Ox H0 M env σ H' := ⟨h.2.ofBl, h.1⟩
theorem rd_andV (h : rdE μ C (.and a b) σ H Q) : tAndV (rdE μ C a) (rdE μ C b) σ H Q := by
  obtain ⟨Ox, H0, M, env, e, h⟩ := h
  refine ⟨Ox, H0, M, env, e, PostG.bind (by simp only [evE] at h; exact h) fun r env1 v H1 hm f s rs h1 => ?_⟩
  split at h1
  · obtain ⟨rfl, e1⟩ := bl_of rs
    refine ⟨true, rfl, iteT ?_⟩
    exact ⟨Ox, H0, M, env1, e1, PostE.rebase h1 f s (fun _ z => z) (by simp [E.quiet])⟩
  · obtain ⟨rfl, e1⟩ := bl_of rs
    refine ⟨false, rfl, iteF ?_⟩
    exact h1 _ H1 ⟨f.keep, f.dom, fun z => f.ex (by simp [E.quiet] at z; exact z.1)⟩ s ⟨e1, .bl _⟩
  · exact h1.elim
theorem rd_orV (h : rdE μ C (.or a b) σ H Q) : tOrV (rdE μ C a) (rdE μ C b) σ H Q := by
  obtain ⟨Ox, H0, M, env, e, h⟩ := h
  refine ⟨Ox, H0, M, env, e, PostG.bind (by simp only [evE] at h; exact h) fun r env1 v H1 hm f s rs h1 => ?_⟩
  split at h1
  · obtain ⟨rfl, e1⟩ := bl_of rs
    refine ⟨true, rfl, iteT ?_⟩
    exact h1 _ H1 ⟨f.keep, f.dom, fun z => f.ex (by simp [E.quiet] at z; exact z.1)⟩ s ⟨e1, .bl _⟩
  · obtain ⟨rfl, e1⟩ := bl_of rs
    refine ⟨false, rfl, iteF ?_⟩
    exact ⟨Ox, H0, M, env1, e1, PostE.rebase h1 f s (fun _ z => z) (by simp [E.quiet])⟩
  · exact h1.elim
theorem rd_notV (h : rdE μ C (.not a) σ H Q) : tNotV (rdE μ C a) σ H Q := by
  obtain ⟨Ox, H0, M, env, e, h⟩ := h
  refine ⟨Ox, H0, M, env, e, PostG.bind (by simp only [evE] at h; exact h) fun r env1 v H1 hm f s rs h1 => ?_⟩
  split at h1
  · rename_i bb
    obtain ⟨rfl, e1⟩ := bl_of rs
    exact ⟨bb, rfl, h1 _ H1 f s ⟨e1, .bl _⟩⟩
  · exact h1.elim
theorem rdT_and {Q : Bool → Hp → Prop} (h : rdT μ C (.and a b) σ H Q) : tAnd (rdT μ C a) (rdT μ C b) σ H Q := by
  obtain ⟨Ox, H0, M, env, e, h⟩ := h
  refine ⟨Ox, H0, M, env, e, PostG.bind (by simp only [evE] at h; exact h) fun r env1 v H1 hm f s rs h1 => ?_⟩
  split at h1
  · obtain ⟨rfl, e1⟩ := bl_of rs
    refine ⟨true, rfl, iteT ?_⟩
    exact ⟨Ox, H0, M, env1, e1, PostE.rebase h1 f s (fun _ z => z) (by simp [E.quiet])⟩
  · obtain ⟨rfl, e1⟩ := bl_of rs
    refine ⟨false, rfl, iteF ?_⟩
    obtain ⟨b', eb, q⟩ := h1 _ H1 ⟨f.keep, f.dom, fun z => f.ex (by simp [E.quiet] at z; exact z.1)⟩ s ⟨e1, .bl _⟩
    cases eb
    exact q
  · exact h1.elim
theorem rdT_or {Q : Bool → Hp → Prop} (h : rdT μ C (.or a b) σ H Q) : tOr (rdT μ C a) (rdT μ C b) σ H Q := by
  obtain ⟨Ox, H0, M, env, e, h⟩ := h
  refine ⟨Ox, H0, M, env, e, PostG.bind (by simp only [evE] at h; exact h) fun r env1 v H1 hm f s rs h1 => ?_⟩
  split at h1
  · obtain ⟨rfl, e1⟩ := bl_of rs
    refine ⟨true, rfl, iteT ?_⟩
    obtain ⟨b', eb, q⟩ := h1 _ H1 ⟨f.keep, f.dom, fun z => f.ex (by simp [E.quiet] at z; exact z.1)⟩ s ⟨e1, .bl _⟩
    cases eb
    exact q
  · obtain ⟨rfl, e1⟩ := bl_of rs
    refine ⟨false, rfl, iteF ?_⟩
    exact ⟨Ox, H0, M, env1, e1, PostE.rebase h1 f s (fun _ z => z) (by simp [E.quiet])⟩
  · exact h1.elim
theorem rdT_not {Q : Bool → Hp → Prop} (h : rdT μ C (.not a) σ H Q) : tNot (rdT μ C a) σ H Q := by
  obtain ⟨Ox, H0, M, env, e, h⟩ := h
  refine ⟨Ox, H0, M, env, e, PostG.bind (by simp only [evE] at h; exact h) fun r env1 v H1 hm f s rs h1 => ?_⟩
  split at h1
  · rename_i bb
    obtain ⟨rfl, e1⟩ := bl_of rs
    obtain ⟨b', eb, q⟩ := h1 _ H1 f s ⟨e1, .bl _⟩
    cases eb
    exact ⟨bb, rfl, q⟩
  · exact h1.elim
theorem rdT_one {Q : Bool → Hp → Prop} (h : rdT μ C (.one a) σ H Q) : rdT μ C a σ H Q := by
  obtain ⟨Ox, H0, M, env, e, h⟩ := h
  exact ⟨Ox, H0, M, env, e, by simpa only [evE, E.quiet] using h⟩
theorem rd_one (h : rdE μ C (.one a) σ H Q) : rdE μ C a σ H Q := by
  obtain ⟨Ox, H0, M, env, e, h⟩ := h
  exact ⟨Ox, H0, M, env, e, by simpa only [evE, E.quiet] using h⟩
/-- a test by its value -/
theorem rdT_val {Q : Bool → Hp → Prop} (h : rdT μ C a σ H Q) : tB (rdE μ C a) σ H Q := h
theorem rdT_test {Q : Bool → Hp → Prop} (h : rdT μ C a σ H Q) : tTest (rdE μ C a) σ H Q := h
theorem rd_ite (h : rdE μ C (.ite a b c) σ H Q) : tIf (rdT μ C a) (rdE μ C b) (rdE μ C c) σ H Q := by
  obtain ⟨Ox, H0, M, env, e, h⟩ := h
  refine ⟨Ox, H0, M, env, e, PostG.bind (by simp only [evE] at h; exact h) fun r env1 v H1 hm f s rs h1 => ?_⟩
  split at h1
  · obtain ⟨rfl, e1⟩ := bl_of rs
    refine ⟨true, rfl, iteT ?_⟩
    exact ⟨Ox, H0, M, env1, e1, PostE.rebase h1 f s (fun _ z => z) (by simp only [E.quiet, Bool.and_eq_true]; exact fun z => ⟨z.1.1, z.1.2⟩)⟩
  · obtain ⟨rfl, e1⟩ := bl_of rs
    refine ⟨false, rfl, iteF ?_⟩
    exact ⟨Ox, H0, M, env1, e1, PostE.rebase h1 f s (fun _ z => z) (by simp only [E.quiet, Bool.and_eq_true]; exact fun z => ⟨z.1.1, z.2⟩)⟩
  · exact h1.elim
theorem rd_chain {o o' : U2} (h : rdE μ C (.chain o o' a b c) σ H Q) : tChain (q2 o) (q2 o') (rdE μ C a) (rdE μ C b) (rdE μ C c) σ H Q := by
  obtain ⟨Ox, H0, M, env, e, h⟩ := h
  refine ⟨Ox, H0, M, env, e, PostG.bind (by simp only [evE] at h; exact h) fun r env1 v H1 hm f s rs h1 => ?_⟩
  obtain ⟨Ox1, so, sb, e1, hd⟩ := rs.ev
  have hq : (E.chain o o' a b c).quiet = true → a.quiet = true ∧ (b.quiet && c.quiet) = true := by simp [E.quiet]; intro x y z; exact ⟨x, y, z⟩
  refine ⟨Ox1, H0, M, env1, e1, PostG.bind (PostE.rebase (qb := b.quiet && c.quiet) h1 f s so hq) fun r2 env2 w H2 hm2 f2 s2 rs2 h2 => ?_⟩
  obtain ⟨Ox2, so2, sb2, e2, hd2⟩ := rs2.ev
  split at h2
  · rename_i du dv
    have e3 := e2.less so2
    have p1 : RpT H2 (All Ox1 env2 σ) v du := hd.top e1 rfl f2 (fun z => nomatch z) (fun a z => .inl (z.imp id (s2 a)))
    have p2 : RpT H2 (All Ox1 env2 σ) w dv := hd2.top e2 rfl (Ex.fr Ex.rfl' (q := true)) (fun _ => rfl) (fun a z => .inl (z.imp (so2 a) id))
    have p3 : Rp H2 (All Ox1 env2 σ) w dv := Rp.go (Goes1.less fun a z => z.imp (so2 a) id) hd2
    split at h2
    · rename_i ho
      refine ⟨All Ox1 env2 σ, du, dv, _, e3.domA, p1, p2, ho, fun z H3 x3 rz => ⟨true, rz.ofBl, iteT ?_⟩⟩
      have e4 := e3.ex x3
      refine ⟨Ox1, H0, M, env2, e4, PostG.bind (PostE.rebase (qb := c.quiet) h2 (f2.trans (q := b.quiet) (x3.fr (Wa := WA env1 σ) (q := true)) (fun _ z => z) (fun z => ⟨z, rfl⟩)) s2 (fun _ z => z) (by simp)) fun r3 env3 y H4 hm3 f4 s4 rs4 h4 => ?_⟩
      obtain ⟨Ox4, so4, sb4, e5, hd4⟩ := rs4.ev
      split at h4
      · rename_i dw
        cases ho' : op2 o' dv dw with
        | none => simp only [ho', ofO] at h4; exact h4.elim
        | some zz =>
          simp only [ho', ofO] at h4
          have e6 := e5.less so4
          refine ⟨All Ox1 env3 σ, dv, dw, zz, e6.domA, ?_, hd4.top e5 rfl (Ex.fr Ex.rfl' (q := true)) (fun _ => rfl) (fun a z => .inl (z.imp (so4 a) id)), ho', glue h4 f4 s4 e6 (mode2 ho')⟩
          exact (Rp.go ⟨fun a o k n => f4.keep a o k fun z => n (.inr z), fun a z => .inl (z.imp id (s4 a))⟩ (p3.go (Goes1.ex x3))).top
      · exact h4.elim
    · rename_i ho
      refine ⟨All Ox1 env2 σ, du, dv, _, e3.domA, p1, p2, ho, fun z H3 x3 rz => ⟨false, rz.ofBl, iteF ?_⟩⟩
      exact h2 _ H3 (f2.trans (x3.fr (Wa := WA env1 σ) (q := true)) (fun _ z => z) (fun z => ⟨(Bool.and_eq_true _ _ ▸ z).1, rfl⟩)) s2 ⟨e3.ex x3, .bl _⟩
    · exact h2.elim
  · exact h2.elim
end
end En
end

section
set_option Elab.async false
set_option linter.all false
set_option maxRecDepth 100000
set_option maxHeartbeats 4000000
namespace En
open PySem PySem.Spec L2
variable [Wd]

/-! ### argument lists, displays -/
inductive HoldA (O Ox Ox0 : OS) (σ : L2.St) (H : Hp) : List Val → List V → Prop
  | nil : HoldA O Ox Ox0 σ H [] []
  | cons {r : Val} {v : V} {rs : List Val} {vs : List V} : Hold O Ox σ H r v → inp r = false → (∀ p, r.1 = .fr → v = .ref p → ¬ Ox0 p) → HoldA O Ox Ox0 σ H rs vs → HoldA O Ox Ox0 σ H (r :: rs) (v :: vs)
def ResA (Ox : OS) (H0 : Hp) (M Wa : OS) (σ : L2.St) (H : Hp) (env : Env) (rs : List Val) (vs : List V) (H' : Hp) : Prop :=
  ∃ Ox', (∀ a, Ox a → Ox' a) ∧ (∀ a, Ox' a → Ox a ∨ H a = none ∨ Wa a) ∧ EvR Ox' H0 M env σ H' ∧ HoldA (All Ox' env σ) Ox' Ox σ H' rs vs
def rdA (μ : Mo) (C : Calls) (e : E) : TA := fun σ H Q => ∃ Ox H0 M env, EvR Ox H0 M env σ H ∧
  PostG μ Ox H0 M (WA env σ) e.quiet σ H (fun env' r v H' => ResA Ox H0 M (WA env σ) σ H env' r v H') Q (evA C e env)

section
variable {μ : Mo} {C : Calls} {σ : L2.St} {H : Hp} {Q : VK} {a b : E} {Ox Ox1 : OS} {H0 H' H1 H2 : Hp} {M Wa Wb : OS} {env env1 env2 : Env}
theorem Hold.move {Ox2 : OS} {q : Bool} {r : Val} {v : V} (h : Hold (All Ox env σ) Ox σ H r v) (e : EvR Ox H0 M env σ H) (hb : inp r = false) (f : Fr (WA env σ) q H H2) (so : ∀ a, Ox a → Ox2 a)
    (s : ∀ a, Ox2 a → Ox a ∨ H a = none ∨ WA env σ a) (sw : ∀ a, WA env2 σ a → WA env σ a) : Hold (All Ox2 env2 σ) Ox2 σ H2 r v := by
  have g : Goes1 H H2 (All Ox env σ) (All Ox2 env2 σ) := ⟨fun a o h n => f.keep a o h fun z => n (.inr z), fun a z => by
    rcases z with z | z
    · rcases s a z with z | z | z
      · exact .inl (.inl z)
      · exact .inr z
      · exact .inl (.inr z)
    · exact .inl (.inr (sw a z))⟩
  obtain ⟨m, d⟩ := r
  cases m with
  | sh => exact Rp.go g h
  | bo => cases hb
  | mu i => exact h
  | fr =>
    obtain ⟨p, rfl, hp, ho⟩ := h
    exact ⟨p, rfl, so p hp, ho.go g fun o k => f.keep p o k fun z => (e.owa z).1 hp⟩
theorem HoldA.low {O : OS} : ∀ {rs : List Val} {vs : List V} {ds : List D}, HoldA (All Ox1 env σ) Ox1 Ox σ H rs vs → EvR Ox1 H0 M env σ H → (∀ a, Ox a → Ox1 a) → lows rs = some ds → Rps H (All Ox env σ) vs ds := by
  intro rs
  induction rs with
  | nil => intro vs ds h e so hl; cases h; cases hl; exact .nil
  | cons r rs ih =>
    intro vs ds h e so hl
    cases h with
    | cons h1 hi hn h2 =>
      simp only [lows] at hl
      obtain ⟨d, ed, hl⟩ := Option.bind_eq_some_iff.mp hl
      obtain ⟨ds', es, rfl⟩ := Option.map_eq_some_iff.mp hl
      refine .cons ?_ (ih h2 e so es)
      refine h1.rp e ed (Ex.fr Ex.rfl' (q := true)) (fun a z => .inl (z.imp (so a) id)) fun hf p hp z => ?_
      rcases z with z | z
      · exact hn p hf hp z
      · obtain ⟨m, d'⟩ := r
        simp only at hf
        subst hf
        obtain ⟨p', rfl, hx, _⟩ := h1
        cases hp
        exact (e.owa z).1 hx
theorem rd_nil {Q : List V → Hp → Prop} (h : rdA μ C .nil σ H Q) : tNil σ H Q := by
  obtain ⟨Ox, H0, M, env, e, h⟩ := h
  simp only [evA] at h
  exact h [] H (Ex.fr Ex.rfl') (fun _ z => z) ⟨Ox, fun _ z => z, fun _ z => .inl z, e, .nil⟩
theorem fr_nox {r : Val} {v : V} (e : EvR Ox H0 M env σ H) (h : Res Ox H0 M (WA env σ) σ H env1 r v H1) : ∀ p, r.1 = .fr → v = .ref p → ¬ Ox p := fun p hf hv z => by
  obtain ⟨m, d⟩ := r
  simp only at hf
  subst hf
  obtain ⟨p', rfl, hp, _⟩ := h
  cases hv
  rcases hp with hp | hp
  · exact e.dom p z hp
  · exact (e.owa hp).1 z
theorem rd_cons {Q : List V → Hp → Prop} (h : rdA μ C (.cons a b) σ H Q) : tCons (rdE μ C a) (rdA μ C b) σ H Q := by
  obtain ⟨Ox, H0, M, env, e, h⟩ := h
  refine ⟨Ox, H0, M, env, e, PostG.bind (by simp only [evA] at h; exact h) fun r env1 v H1 hm f s rs h1 => ?_⟩
  obtain ⟨Ox1, so, sb, e1, hd⟩ := rs.ev
  refine ⟨Ox1, H0, M, env1, e1, PostG.bind (PostG.rebase (Ox1 := Ox1) (qb := b.quiet) h1 f s so (by simp [E.quiet]) fun _ _ _ _ _ z => z) fun r2 env2 vs H2 hm2 f2 s2 rs2 h2 => ?_⟩
  split at h2
  · exact h2.elim
  · rename_i hi
    have hi' : inp r = false := by simpa using hi
    obtain ⟨Ox2, so2, sb2, e2, hd2⟩ := rs2
    refine h2 (v :: vs) H2 f2 s2 ⟨Ox2, fun a z => so2 a (so a z), fun a z => ?_, e2, .cons (hd.move e1 hi' f2 so2 sb2 s2) hi' (fr_nox e rs) ?_⟩
    · rcases sb2 a z with z | z | z
      · exact sb a z
      · exact .inr (.inl (f.none_back z))
      · exact .inr (.inr (s a z))
    · clear h2 hm2
      have go : ∀ {rs : List Val} {vs : List V}, HoldA (All Ox2 env2 σ) Ox2 Ox1 σ H2 rs vs → HoldA (All Ox2 env2 σ) Ox2 Ox σ H2 rs vs := by
        intro rs vs h
        induction h with
        | nil => exact .nil
        | cons h1 h2 h3 _ ih => exact .cons h1 h2 (fun p x y z => h3 p x y (so p z)) ih
      exact go hd2
theorem rd_tup (h : rdE μ C (.tup a) σ H Q) : tTup (rdA μ C a) σ H Q := by
  obtain ⟨Ox, H0, M, env, e, h⟩ := h
  refine ⟨Ox, H0, M, env, e, PostG.bind (by simp only [evE] at h; exact h) fun rs env1 vs H1 hm f s r1 h1 => ?_⟩
  obtain ⟨Ox1, so, sb, e1, hd⟩ := r1
  split at h1
  · rename_i ds hl
    have rr := HoldA.low (O := Ox) hd e1 so hl
    split at h1
    · rename_i hz
      have hz' := of_decide_eq_true hz
      exact ⟨by rw [rr.length]; exact hz', VPost.t (glue h1 f s (e1.less so) (.inl rfl)) rr (e1.less so).domA⟩
    · exact h1.elim
  · exact h1.elim
theorem rd_lst (h : rdE μ C (.lst a) σ H Q) : tLst (rdA μ C a) σ H Q := by
  obtain ⟨Ox, H0, M, env, e, h⟩ := h
  refine ⟨Ox, H0, M, env, e, PostG.bind (by simp only [evE] at h; exact h) fun rs env1 vs H1 hm f s r1 h1 => ?_⟩
  obtain ⟨Ox1, so, sb, e1, hd⟩ := r1
  split at h1
  · rename_i ds hl
    have rr := HoldA.low (O := Ox) hd e1 so hl
    split at h1
    · rename_i hz
      have hz' := of_decide_eq_true hz
      exact ⟨by rw [rr.length]; exact hz', VPost.l (glue h1 f s (e1.less so) (.inr rfl)) rr⟩
    · exact h1.elim
  · exact h1.elim

/-! ### calls of defs -/
/-- the arguments as the parameters take them -/
inductive ArgL (O M : OS) (H : Hp) : List Sm → List Val → List V → Env → Prop
  | nil : ArgL O M H [] [] [] []
  | sh {ms : List Sm} {r : Val} {rs : List Val} {v : V} {vs : List V} {d : D} {env : Env} : low r = some d → Rp H O v d → ArgL O M H ms rs vs env → ArgL O M H (.sh :: ms) (r :: rs) (v :: vs) (some (.sh, d) :: env)
  | mu {ms : List Sm} {i : Nat} {d : D} {rs : List Val} {a : Addr} {vs : List V} {env : Env} : O a → M a → OwnT H O a d → ArgL O M H ms rs vs env → ArgL O M H (.mu :: ms) ((.mu i, d) :: rs) (.ref a :: vs) (some (.mu, d) :: env)
  | muF {d : D} {a : Addr} : O a → M a → OwnT H O a d → ArgL O M H [.mu] [(.fr, d)] [.ref a] [some (.mu, d)]
/-- what a call leaves -/
structure CallRes (O M : OS) (H : Hp) (r : Val) (fin : Option D) (v : V) (H' : Hp) : Prop where
  pres : ∀ a o, H a = some o → ¬ M a → H' a = some o
  mdom : ∀ a, M a → H' a ≠ none
  res : (∃ d, r = (.sh, d) ∧ Rp H' O v d ∧ ∀ a, M a → ∃ d', fin = some d' ∧ OwnT H' O a d') ∨
    (∃ d p, r = (.fr, d) ∧ v = .ref p ∧ H p = none ∧ OwnT H' (plus O p) p d ∧ ∀ a, M a → ∃ d', fin = some d' ∧ OwnT H' (plus O p) a d')
/-- what a call of a def promises, by the evaluator's word -/
def PostC (μ : Mo) (O M : OS) (H : Hp) (Q : VK) (E : XK) : CR → Prop
  | .ok r fin => (fin = none ↔ ∀ a, ¬ M a) → ∀ v H', CallRes O M H r fin v H' → Q v H'
  | .exc x => (∀ a, ¬ M a) ∧ ∀ cls dx H', Ex H H' → μ.XR H' O x cls dx → E cls dx H'
  | .stuck => False
def spC (μ : Mo) (cr : List Val → CR) (pm : List Sm) : Sp := fun vs H Q E => ∃ O M rs env0, (∀ a, O a → H a ≠ none) ∧ (∀ a, M a → O a) ∧ (∀ a b, M a → M b → a = b) ∧ argX pm rs = some env0 ∧ oneMu pm = true ∧ ArgL O M H pm rs vs env0 ∧
  (pm.contains .mu = false → ∀ a, ¬ M a) ∧ PostC μ O M H Q E (cr rs)

theorem argS_mu : ∀ {pm : List Sm} {rs : List Val} {env0 : Env}, argS pm rs = some env0 → (pm.contains .mu = false ↔ muOf rs = none) := by
  intro pm
  induction pm with
  | nil => intro rs env0 h; cases rs with
    | nil => simp [muOf]
    | cons => cases h
  | cons m pm ih =>
    intro rs env0 h
    cases rs with
    | nil => cases m <;> cases h
    | cons r rs =>
      obtain ⟨md, d⟩ := r
      cases m with
      | sh =>
        simp only [argS] at h
        obtain ⟨d', ed, h⟩ := Option.bind_eq_some_iff.mp h
        obtain ⟨e', ee, rfl⟩ := Option.map_eq_some_iff.mp h
        cases md with
        | mu i => cases ed
        | _ => simpa [muOf] using ih ee
      | ow => cases h
      | mu =>
        cases md with
        | mu i => simp [muOf]
        | _ => cases h
theorem refr_mu (env : Env) : ∀ rs : List Val, muOf (refr env rs) = muOf rs
  | [] => rfl
  | (.mu i, d) :: r => rfl
  | (.sh, d) :: r => refr_mu env r
  | (.fr, d) :: r => refr_mu env r
  | (.bo, d) :: r => refr_mu env r
theorem muOk_of {env : Env} : ∀ {rs : List Val} {i : Nat}, muOk env rs = true → muOf rs = some i → isOw env i = true := by
  intro rs
  induction rs with
  | nil => intro i _ h; cases h
  | cons r rs ih =>
    intro i h1 h2
    obtain ⟨m, d⟩ := r
    cases m with
    | mu j =>
      simp only [muOk, Bool.and_eq_true] at h1
      simp only [muOf, Option.some.injEq] at h2
      rw [← h2]; exact h1.1
    | _ => exact ih h1 h2
theorem arg_ok {pm : List Sm} (e : EvR Ox1 H0 M env σ H) (so : ∀ a, Ox a → Ox1 a) (N : OS) : ∀ {rs : List Val} {vs : List V} {env0 : Env}, HoldA (All Ox1 env σ) Ox1 Ox σ H rs vs → muOk env rs = true →
    (∀ i, muOf rs = some i → ∀ a, σ[i]? = some (some (.ref a)) → N a) → argS pm (refr env rs) = some env0 → oneMu pm = true → ArgL (All Ox env σ) N H pm (refr env rs) vs env0 := by
  induction pm with
  | nil =>
    intro rs vs env0 h _ _ ha _
    cases h with
    | nil => cases ha; exact .nil
    | @cons r v rs vs h1 hi hx h2 => obtain ⟨md, d⟩ := r; cases md <;> cases ha
  | cons m pm ih =>
    intro rs vs env0 h hk hn ha ho
    cases h with
    | nil => cases m <;> cases ha
    | @cons r v rs vs h1 hi hx h2 =>
      obtain ⟨md, d⟩ := r
      cases m with
      | sh =>
        have er : refr env ((md, d) :: rs) = (md, d) :: refr env rs ∧ low (md, d) ≠ none := by
          cases md with
          | mu i => cases ha
          | bo => cases hi
          | sh => exact ⟨rfl, fun z => by cases z⟩
          | fr => exact ⟨rfl, fun z => by cases z⟩
        rw [er.1] at ha ⊢
        simp only [argS] at ha
        obtain ⟨d', ed, ha⟩ := Option.bind_eq_some_iff.mp ha
        obtain ⟨e', ee, rfl⟩ := Option.map_eq_some_iff.mp ha
        have hk' : muOk env rs = true := by cases md <;> first | exact hk | (cases ed; done)
        have hn' : ∀ i, muOf rs = some i → ∀ a, σ[i]? = some (some (.ref a)) → N a := by cases md <;> first | exact hn | (cases ed; done)
        refine .sh ed ?_ (ih h2 hk' hn' ee ho)
        refine h1.rp e ed (Ex.fr Ex.rfl' (q := true)) (fun a z => .inl (z.imp (so a) id)) fun hf p hp z => ?_
        rcases z with z | z
        · exact hx p hf hp z
        · simp only at hf
          subst hf
          obtain ⟨p', rfl, hx', _⟩ := h1
          cases hp
          exact (e.owa z).1 hx'
      | ow => cases md <;> cases ha
      | mu =>
        cases md with
        | mu i =>
          simp only [muOk, Bool.and_eq_true] at hk
          obtain ⟨mm, dd, hg, hm⟩ := isOw_iff.mp hk.1
          have er : refr env ((.mu i, d) :: rs) = (.mu i, dd) :: refr env rs := by simp only [refr, hg]
          rw [er] at ha ⊢
          simp only [argS] at ha
          obtain ⟨e', ee, rfl⟩ := Option.map_eq_some_iff.mp ha
          obtain ⟨a, sa, oa, na, _⟩ := e.ow i mm dd hg hm
          have hv : v = .ref a := by
            have h1' : σ[i]? = some (some v) := h1
            rw [sa] at h1'
            exact (Option.some.inj (Option.some.inj h1')).symm
          subst hv
          have hno : muOf rs = none := by
            have h3 := (argS_mu ee).mp (by simpa [oneMu] using ho)
            rwa [refr_mu] at h3
          have ho' : oneMu pm = true := by
            have : ∀ l : List Sm, l.contains .mu = false → oneMu l = true := by
              intro l
              induction l with
              | nil => intro _; rfl
              | cons x l ihl => intro hl; cases x <;> simp_all [oneMu]
            exact this pm (by simpa [oneMu] using ho)
          refine .mu (.inr ⟨i, hk.1, sa⟩) (hn i rfl a sa) (oa.go (Goes1.less fun b z => z.imp (so b) id) fun o q => q) (ih h2 hk.2 (fun j hj => ?_) ee ho')
          rw [hno] at hj; cases hj
        | _ => cases ha
/-- what everyone keeps away from may be written -/
theorem EvR.own0 {p : Addr} (e : EvR Ox H0 M env σ H) (h : WA env σ p) : H0 p = none ∨ M p := by
  obtain ⟨i, hi, hs⟩ := h
  obtain ⟨m, d, hg, hm⟩ := isOw_iff.mp hi
  obtain ⟨b, hb, _, _, h1, h2⟩ := e.ow i m d hg hm
  rw [hs] at hb
  cases hb
  cases m with
  | sh => exact absurd rfl hm
  | ow => exact .inl (h1 rfl)
  | mu => exact .inr (h2 rfl)
theorem EvR.away {p : Addr} {o : HO} (e : EvR Ox H0 M env σ H) (hp : Ox p) (h0 : H0 p = none ∨ M p) : EvR Ox H0 M env σ (upd H p o) ∧ Goes1 H (upd H p o) (All Ox env σ) (All Ox env σ) := by
  have g : Goes1 H (upd H p o) (All Ox env σ) (All Ox env σ) := ⟨fun a u h n => by rw [upd_ne (fun z => n (by rw [z]; exact .inl hp))]; exact h, fun _ z => .inl z⟩
  have dm : ∀ a, H a ≠ none → upd H p o a ≠ none := fun a h => by
    by_cases z : a = p
    · rw [z, upd_same]; simp
    · rw [upd_ne z]; exact h
  refine ⟨⟨e.len, fun i d h => ?_, fun i m d h k => ?_, e.inj, fun a u h n => ?_, fun a h => dm a (e.dom a h), fun a h => dm a (e.mdom a h)⟩, g⟩
  · obtain ⟨v, a, b⟩ := e.sh i d h
    exact ⟨v, a, b.go g⟩
  · obtain ⟨a, b, c, n, r⟩ := e.ow i m d h k
    exact ⟨a, b, c.go g fun o q => by rw [upd_ne (fun z => n (by rw [z]; exact hp))]; exact q, n, r⟩
  · rw [upd_ne (fun z => by rcases h0 with h0 | h0; (rw [z, h0] at h; cases h); exact n (by rw [z]; exact h0))]; exact e.pres a u h n
theorem argF_mu : ∀ {pm : List Sm} {rs : List Val} {env0 : Env}, argF pm rs = some env0 → pm.contains .mu = false → False := by
  intro pm
  induction pm with
  | nil => intro rs env0 h _; cases rs <;> cases h
  | cons m pm ih =>
    intro rs env0 h hc
    cases m with
    | mu => simp at hc
    | ow => cases rs <;> cases h
    | sh =>
      cases rs with
      | nil => cases h
      | cons r rs =>
        obtain ⟨md, d⟩ := r
        cases md with
        | sh =>
          simp only [argF] at h
          obtain ⟨e', ee, rfl⟩ := Option.map_eq_some_iff.mp h
          exact ih ee (by simpa using hc)
        | _ => cases h
/-- the arguments, the last one new -/
theorem argF_ok {pm : List Sm} (e : EvR Ox1 H0 M env σ H) (so : ∀ a, Ox a → Ox1 a) : ∀ {rs : List Val} {vs : List V} {env0 : Env}, HoldA (All Ox1 env σ) Ox1 Ox σ H rs vs → argF pm (refr env rs) = some env0 →
    muOf rs = none ∧ ∃ p, (Ox1 p ∧ ¬ Ox p) ∧ (∃ d, OwnT H (All Ox1 env σ) p d) ∧ ArgL (plus (All Ox env σ) p) (fun x => x = p) H pm (refr env rs) vs env0 := by
  induction pm with
  | nil => intro rs vs env0 _ h; cases rs with
    | nil => cases h
    | cons r rs => obtain ⟨md, d⟩ := r; cases md <;> cases h
  | cons m pm ih =>
    intro rs vs env0 hd h
    cases hd with
    | nil => cases m <;> (first | (cases h; done) | (cases pm <;> cases h))
    | @cons r v rs vs h1 hi hx h2 =>
      obtain ⟨md, d⟩ := r
      cases m with
      | ow => cases md <;> cases h
      | mu =>
        cases md with
        | fr =>
          cases pm with
          | cons => cases h
          | nil =>
            cases h2 with
            | @cons r2 _ _ _ _ _ _ _ => obtain ⟨md2, d2⟩ := r2; cases md2 <;> cases h
            | nil =>
              cases h
              obtain ⟨p, rfl, hp, op⟩ := h1
              have le : ∀ b, plus (All Ox env σ) p b → All Ox1 env σ b := fun b z => z.elim (fun z => z.imp (so b) id) fun z => by rw [z]; exact .inl hp
              exact ⟨rfl, p, ⟨hp, hx p rfl rfl⟩, ⟨d, op⟩, .muF (.inr rfl) rfl (op.go (Goes1.less le) fun o q => q)⟩
        | _ => first | (cases h; done) | (cases hi; done) | (cases pm <;> cases h)
      | sh =>
        cases md with
        | sh =>
          have h' : argF (.sh :: pm) ((.sh, d) :: refr env rs) = some env0 := h
          simp only [argF] at h'
          obtain ⟨e', ee, rfl⟩ := Option.map_eq_some_iff.mp h'
          obtain ⟨i1, p, hp, hop, i2⟩ := ih h2 ee
          have le : ∀ b, plus (All Ox env σ) p b → All Ox1 env σ b := fun b z => z.elim (fun z => z.imp (so b) id) fun z => by rw [z]; exact .inl hp.1
          exact ⟨i1, p, hp, hop, .sh rfl (Rp.go (Goes1.less le) h1) i2⟩
        | mu i => cases h
        | fr => cases h
        | bo => cases hi
theorem rd_call {fn : Str} {pm : List Sm} (hC : ∀ rs, C fn rs ≠ .stuck → ∃ env0, argX pm rs = some env0 ∧ oneMu pm = true) (hv : ∀ rs r fin, C fn rs = .ok r fin → r.1 = .sh ∨ r.1 = .fr) (hX : ∀ rs x, C fn rs = .exc x → pm.contains .mu = false)
    (h : rdE μ C (.call fn a) σ H Q) : rdA μ C a σ H fun vs H1 => spC μ (C fn) pm (vs ++ []) H1 Q (WE μ.W σ) := by
  obtain ⟨Ox, H0, M, env, e, h⟩ := h
  refine ⟨Ox, H0, M, env, e, PostG.bind (by simp only [evE] at h; exact h) fun rs env1 vs H1 hm f s r1 h1 => ?_⟩
  obtain ⟨Ox1, so, sb, e1, hd⟩ := r1
  rw [List.append_nil]
  split at h1
  · exact h1.elim
  rename_i hbad
  simp only [Bool.or_eq_true, Bool.and_eq_true, Bool.not_eq_true', not_or, not_and] at hbad
  have hmu : muOk env1 rs = true := by simpa using hbad.2
  have e2 := e1.less so
  have hns : C fn (refr env1 rs) ≠ .stuck := fun z => by rw [z] at h1; exact h1.elim
  obtain ⟨env0, hx, ho⟩ := hC _ hns
  cases ha : argS pm (refr env1 rs) with
  | none =>
    have hF : argF pm (refr env1 rs) = some env0 := by unfold argX at hx; rw [ha] at hx; exact hx
    obtain ⟨hmo, p, hp, op, hAL⟩ := argF_ok e1 so hd hF
    have nOx : ¬ Ox p := hp.2
    obtain ⟨dp, op⟩ := op
    have hpd : H1 p ≠ none := op.some
    have e2d := e2.domA
    have dom' : ∀ x, plus (All Ox env1 σ) p x → H1 x ≠ none := fun x z => z.elim (e2d x) fun z => by rw [z]; exact hpd
    refine ⟨plus (All Ox env1 σ) p, fun x => x = p, refr env1 rs, env0, dom', fun x z => .inr z, fun x y hx hy => hx.trans hy.symm, hx, ho, hAL, fun hc x _ => ?_, ?_⟩
    · exact argF_mu hF hc
    · have mono : ∀ x, All Ox env1 σ x → plus (All Ox env1 σ) p x := fun x z => .inl z
      cases hc : C fn (refr env1 rs) with
      | stuck => exact absurd hc hns
      | exc x =>
        rw [hc] at h1
        exact (argF_mu hF (hX _ _ hc)).elim
      | ok r fin =>
        rw [hc] at h1
        intro hfin v H' cr
        cases fin with
        | none => exact absurd rfl (hfin.mp rfl p)
        | some d' =>
          simp only [hmo] at h1
          split at h1
          · exact h1.elim
          rename_i hnq
          have hq : (E.call fn a).quiet = false := by
            cases hq : (E.call fn a).quiet with
            | false => rfl
            | true => exact absurd hq hnq
          -- the heap goes on, but for p
          obtain ⟨op', hop'⟩ : ∃ o, H' p = some o := by
            cases q : H' p with
            | none => exact absurd q (cr.mdom p rfl)
            | some o => exact ⟨o, rfl⟩
          have x' : Ex (upd H1 p op') H' := fun b o hb => by
            by_cases z : b = p
            · rw [z, upd_same] at hb; rw [z, hop']; exact hb
            · rw [upd_ne z] at hb; exact cr.pres b o hb z
          have h0p : H0 p = none ∨ M p := by
            rcases sb p hp.1 with z | z | z
            · exact absurd z hp.2
            · exact .inl (e.back z)
            · exact e.own0 z
          obtain ⟨e3, _⟩ := e1.away (p := p) (o := op') hp.1 h0p
          have e4 := (e3.ex x').less so
          have fr2 : Fr (WA env σ) (E.call fn a).quiet H H' := ⟨fun b o hb nb => ?_, fun b hb => ?_, fun z => by rw [hq] at z; cases z⟩
          · rcases cr.res with ⟨d, rfl, rv, _⟩ | ⟨d, p', rfl, rfl, hp', ho', _⟩
            · exact h1 v H' fr2 s ⟨e4, rv.go (Goes1.less mono)⟩
            · refine h1 _ H' fr2 s ⟨p', rfl, .inl (f.none_back hp'), e2.back hp', ?_, ho'.go (Goes1.less fun b z => ?_) fun o k => k⟩
              · have hp'p : p' ≠ p := fun z => by rw [z] at hp'; exact hpd hp'
                have hpn : upd H1 p op' p' = none := by rw [upd_ne hp'p]; exact hp'
                exact (e3.less so).add hpn x' ho'.some
              · rcases z with (z | z) | z
                · exact .inl (.inl (.inl z))
                · exact .inr z
                · exact .inl (.inl (.inr z))
          · have hb1 := f.keep b o hb nb
            by_cases z : b = p
            · rcases sb p hp.1 with z1 | z1 | z1
              · exact absurd z1 hp.2
              · rw [z, z1] at hb; cases hb
              · rw [z] at nb; exact absurd z1 nb
            · exact cr.pres b o hb1 z
          · by_cases z : b = p
            · rw [z, hop']; simp
            · have hb1 := f.dom b hb
              intro q
              cases hu : H1 b with
              | none => exact hb1 hu
              | some u => rw [cr.pres b u hu z] at q; cases q
  | some env0' =>
  have hx0 := hx
  have ha0 : env0' = env0 := by unfold argX at hx; rw [ha] at hx; exact Option.some.inj hx
  subst ha0
  let N : OS := fun x => ∃ i, muOf rs = some i ∧ σ[i]? = some (some (.ref x))
  have hN : ∀ x, N x → WA env1 σ x := fun x ⟨i, hi, hx⟩ => ⟨i, muOk_of hmu hi, hx⟩
  have hNe : muOf rs ≠ none → ∃ x, N x := fun hne => by
    cases hi : muOf rs with
    | none => exact absurd hi hne
    | some i =>
      obtain ⟨mm, dd, hg, hmm⟩ := isOw_iff.mp (muOk_of hmu hi)
      obtain ⟨x, sx, _⟩ := e2.ow i mm dd hg hmm
      exact ⟨x, i, hi, sx⟩
  refine ⟨All Ox env1 σ, N, refr env1 rs, env0', e2.domA, fun x hx => .inr (hN x hx), fun x y ⟨i, hi, hx⟩ ⟨j, hj, hy⟩ => ?_, hx0, ho, arg_ok e1 so N hd hmu (fun i hi x hx => ⟨i, hi, hx⟩) ha ho, fun hc x ⟨i, hi, _⟩ => ?_, ?_⟩
  · rw [hi] at hj; cases hj; rw [hx] at hy; cases hy; rfl
  · have := (argS_mu ha).mp hc
    rw [refr_mu, hi] at this; cases this
  · have fq : muOf rs ≠ none → (E.call fn a).quiet = false := fun hne => by
      cases hq : a.quiet with
      | false => show (a.quiet && a.noDic) = false; rw [hq]; rfl
      | true =>
        exfalso
        cases hi : muOf rs with
        | none => exact hne hi
        | some i => exact hbad.1 hq (by rw [hi]; rfl)
    cases hc : C fn (refr env1 rs) with
    | stuck => exact absurd hc hns
    | exc x =>
      rw [hc] at h1
      cases hi : muOf rs with
      | some i => simp only [hi] at h1; exact h1.elim
      | none =>
        simp only [hi] at h1
        have no : ∀ y, ¬ N y := fun y ⟨i, h2, _⟩ => by
          rw [hi] at h2; cases h2
        refine ⟨no, fun cls dx H' x' xr => ?_⟩
        exact h1 cls dx H' (f.lose.trans (x'.fr (Wa := WA env σ) (q := true)) (fun _ z => z) fun z => nomatch z) s (e2.ex x') xr
    | ok r fin =>
      rw [hc] at h1
      have hmode := hv _ r fin hc
      intro hfin v H' cr
      cases fin with
      | none =>
        have nM := hfin.mp rfl
        have hi : muOf rs = none := by
          cases hi : muOf rs with
          | none => rfl
          | some i => obtain ⟨x, hx⟩ := hNe (by rw [hi]; simp); exact absurd hx (nM x)
        simp only [hi] at h1
        have x' : Ex H1 H' := fun b o hb => cr.pres b o hb (nM b)
        refine h1 v H' (f.trans (q := (E.call fn a).quiet) (x'.fr (Wa := WA env σ) (q := true)) (fun _ z => z) fun z => ⟨(Bool.and_eq_true _ _ ▸ z).1, rfl⟩) s ?_
        rcases cr.res with ⟨d, rfl, rv, _⟩ | ⟨d, p, rfl, rfl, hp, ho, _⟩
        · exact ⟨e2.ex x', rv⟩
        · refine ⟨p, rfl, .inl (f.none_back hp), e2.back hp, e2.add hp x' ho.some, ho.go (Goes1.less fun b z => ?_) fun o k => k⟩
          rcases z with (z | z) | z
          · exact .inl (.inl z)
          · exact .inr z
          · exact .inl (.inr z)
      | some d' =>
        have hne : muOf rs ≠ none := fun hi => by
          have : (some d' : Option D) = none := hfin.mpr fun y ⟨i, h2, _⟩ => by rw [hi] at h2; cases h2
          cases this
        obtain ⟨x, hx⟩ := hNe hne
        obtain ⟨i, hi, sx⟩ := hx
        obtain ⟨mm, dd, hg, hmm⟩ := isOw_iff.mp (muOk_of hmu hi)
        simp only [hi, putBack, hg] at h1
        have kp : ∀ b u, b ≠ x → H1 b = some u → H' b = some u := fun b u nb hb => cr.pres b u hb fun ⟨j, hj, sj⟩ => by
          rw [hi] at hj; cases hj; rw [sx] at sj; cases sj; exact nb rfl
        have dm : ∀ b, H1 b ≠ none → H' b ≠ none := fun b hb => by
          by_cases q : b = x
          · rw [q]; exact cr.mdom x ⟨i, hi, sx⟩
          · intro z
            cases hu : H1 b with
            | none => exact hb hu
            | some u => rw [kp b u q hu] at z; cases z
        have wx : WA env1 σ x := ⟨i, muOk_of hmu hi, sx⟩
        have fr2 : Fr (WA env σ) (E.call fn a).quiet H H' := f.trans (q2 := (E.call fn a).quiet) (Wb := WA env1 σ) ⟨fun b o hb nb => kp b o (fun z => nb (by rw [z]; exact wx)) hb, dm, fun z => by rw [fq hne] at z; cases z⟩ s fun z => ⟨(Bool.and_eq_true _ _ ▸ z).1, z⟩
        rcases cr.res with ⟨d, rfl, rv, hm'⟩ | ⟨d, p, rfl, rfl, hp, ho, hm'⟩
        · obtain ⟨d1, e1', o1⟩ := hm' x ⟨i, hi, sx⟩
          cases e1'
          obtain ⟨e3, w3⟩ := e2.write hg hmm sx kp o1
          exact h1 v H' fr2 (fun b z => s b ((w3 b).mp z)) ⟨e3, rv.go (Goes1.less fun b z => z.imp id (w3 b).mp)⟩
        · obtain ⟨d1, e1', o1⟩ := hm' x ⟨i, hi, sx⟩
          cases e1'
          -- everything keeps away from p
          have nxp : x ≠ p := fun z => by rw [z] at wx; exact (e2.owa wx).2 hp
          have e2p : EvR (plus Ox p) H0 M env1 σ (fun b => if b = p then H' p else H1 b) := e2.add hp (fun b o hb => by
            show (if b = p then H' p else H1 b) = some o
            rw [if_neg (fun z => by rw [z, hp] at hb; cases hb)]; exact hb) (by show (if p = p then H' p else H1 p) ≠ none; rw [if_pos rfl]; exact ho.some)
          have kp2 : ∀ b u, b ≠ x → (if b = p then H' p else H1 b) = some u → H' b = some u := fun b u nb hb => by
            by_cases q : b = p
            · rw [if_pos q] at hb; rw [q]; exact hb
            · rw [if_neg q] at hb; exact kp b u nb hb
          have go1 : ∀ b, All (plus Ox p) env1 σ b → plus (All Ox env1 σ) p b := fun b z => by
            rcases z with (z | z) | z
            · exact .inl (.inl z)
            · exact .inr z
            · exact .inl (.inr z)
          obtain ⟨e3, w3⟩ := e2p.write (H' := H') hg hmm sx kp2 (o1.go (Goes1.less go1) fun o k => k)
          exact h1 _ H' fr2 (fun b z => s b ((w3 b).mp z)) ⟨p, rfl, .inl (f.none_back hp), e2.back hp, e3, ho.go (Goes1.less fun b z => go1 b (z.imp id (w3 b).mp)) fun o k => k⟩
end
end En
end

section
set_option Elab.async false
set_option linter.all false
set_option maxRecDepth 100000
set_option maxHeartbeats 4000000
namespace En
open PySem PySem.Spec L2
variable [Wd]

/-! ### what is walked -/
structure Turns (J : It) (xs : List D) (H : Hp) (O : OS) : Prop where
  go : ∀ i d, xs[i]? = some d → J.go i H ∧ ∀ x H', J.yld i H x H' → Ex H H' ∧ Rp H' O x d
  stop : ∀ i, xs.length ≤ i → J.stop i H
def Walks (J : It) (xs : List D) (Hs : Hp) (Wa Os : OS) : Prop := ∀ (H : Hp) (O : OS), (∀ a o, Hs a = some o → ¬ Wa a → H a = some o) → (∀ a, O a → Os a ∨ Hs a = none) → (∀ a, O a → H a ≠ none) → Turns J xs H O
def RsI (Ox : OS) (H0 : Hp) (M Wa : OS) (σ : L2.St) (H : Hp) (env : Env) (xs : List D) (J : It) (H' : Hp) : Prop :=
  ∃ Ox', (∀ a, Ox a → Ox' a) ∧ (∀ a, Ox' a → Ox a ∨ H a = none ∨ Wa a) ∧ EvR Ox' H0 M env σ H' ∧ Walks J xs H' (WA env σ) (All Ox' env σ)
def rdI (μ : Mo) (C : Calls) (k : ItK) (a b : E) : TI := fun σ H R => ∃ Ox H0 M env, EvR Ox H0 M env σ H ∧
  PostG μ Ox H0 M (WA env σ) (a.quiet && b.quiet) σ H (fun env' r v H' => RsI Ox H0 M (WA env σ) σ H env' r v H') R (evI (evE C a) (evE C b) k env)

/-- a sequence that may be read while others run: its address is not written -/
theorem kept_rd {Hs H : Hp} {Wa : OS} {a : Addr} {u : HO} (k : ∀ a o, Hs a = some o → ¬ Wa a → H a = some o) (n : ¬ Wa a) (h : Rd Hs a u) : Rd H a u := by
  rcases h with h | ⟨o, h⟩
  · exact .inl (k a _ h n)
  · exact .inr ⟨o, k a _ h n⟩

section
variable {K : PySem.W.Frag} {Hs : Hp} {Wa Os : OS} {a b : Addr} {vs ws : List V} {ds es : List D}
theorem goes_of {H : Hp} {O : OS} (sw : ∀ a, Wa a → Os a) (k : ∀ a o, Hs a = some o → ¬ Wa a → H a = some o) (o : ∀ a, O a → Os a ∨ Hs a = none) : Goes1 Hs H Os O := ⟨fun a u h n => k a u h fun z => n (sw a z), o⟩
theorem walk_list (sw : ∀ a, Wa a → Os a) (n : ¬ Wa a) (h : Rd Hs a (.lst vs)) (r : Rps Hs Os vs ds) : Walks (Itl K a) ds Hs Wa Os := fun H O k o _ => by
  have h' : SqL K H a vs := .inl (kept_rd k n h)
  have r' : Rps H O vs ds := r.go (goes_of sw k o)
  refine ⟨fun i d e => ?_, fun i hi => ⟨vs, h', by rw [r.length]; exact hi⟩⟩
  obtain ⟨v, ev, rv⟩ := r'.get e
  refine ⟨⟨vs, v, h', ev⟩, fun x H' y => ?_⟩
  obtain ⟨rfl, y⟩ := y
  have := y vs h'
  rw [ev] at this; cases this
  exact ⟨Ex.rfl', rv⟩
theorem walk_tup (sw : ∀ a, Wa a → Os a) (n : ¬ Wa a) (h : Rd Hs a (.tup vs)) (r : Rps Hs Os vs ds) : Walks (Itt K a) ds Hs Wa Os := fun H O k o _ => by
  have h' : SqT K H a vs := .inl (kept_rd k n h)
  have r' : Rps H O vs ds := r.go (goes_of sw k o)
  refine ⟨fun i d e => ?_, fun i hi => ⟨vs, h', by rw [r.length]; exact hi⟩⟩
  obtain ⟨v, ev, rv⟩ := r'.get e
  refine ⟨⟨vs, v, h', ev⟩, fun x H' y => ?_⟩
  obtain ⟨rfl, y⟩ := y
  have := y vs h'
  rw [ev] at this; cases this
  exact ⟨Ex.rfl', rv⟩
theorem rangeD_get : ∀ (n : Nat) (lo : Int) (i : Nat), (rangeD lo n)[i]? = if i < n then some (.int (lo + i)) else none
  | 0, lo, i => by simp [rangeD]
  | n + 1, lo, 0 => by simp [rangeD]
  | n + 1, lo, i + 1 => by
    simp only [rangeD, List.getElem?_cons_succ, rangeD_get n (lo + 1) i]
    have e : lo + 1 + (i : Int) = lo + ((i + 1 : Nat) : Int) := by omega
    rw [e]
    by_cases h : i < n
    · rw [if_pos h, if_pos (by omega)]
    · rw [if_neg h, if_neg (by omega)]
theorem rangeD_len : ∀ (n : Nat) (lo : Int), (rangeD lo n).length = n
  | 0, _ => rfl
  | n + 1, lo => by simp only [rangeD, List.length_cons, rangeD_len n]
theorem walk_range (lo : Int) (n : Nat) : Walks (Itr lo n) (rangeD lo n) Hs Wa Os := fun H O k o _ => by
  refine ⟨fun i d e => ?_, fun i hi => by rw [rangeD_len] at hi; exact hi⟩
  rw [rangeD_get] at e
  split at e
  · cases e
    refine ⟨by assumption, fun x H' y => ?_⟩
    obtain ⟨rfl, rfl⟩ := y
    exact ⟨Ex.rfl', .int _⟩
  · cases e
theorem enumD_get : ∀ (ds : List D) (n i : Nat), (enumD n ds)[i]? = (ds[i]?).map fun d => .tup [.int ((n + i : Nat) : Int), d]
  | [], n, i => by simp [enumD]
  | d :: ds, n, 0 => by simp [enumD]
  | d :: ds, n, i + 1 => by
    simp only [enumD, List.getElem?_cons_succ, enumD_get ds (n + 1) i]
    have e : n + 1 + i = n + (i + 1) := by omega
    rw [e]
theorem enumD_len : ∀ (ds : List D) (n : Nat), (enumD n ds).length = ds.length
  | [], _ => rfl
  | _ :: ds, n => by simp only [enumD, List.length_cons, enumD_len ds]
theorem walk_enum (sw : ∀ a, Wa a → Os a) (n : ¬ Wa a) (h : Rd Hs a (.lst vs)) (r : Rps Hs Os vs ds) : Walks (Ite K a) (enumD 0 ds) Hs Wa Os := fun H O k o hO => by
  have h' : SqL K H a vs := .inl (kept_rd k n h)
  have r' : Rps H O vs ds := r.go (goes_of sw k o)
  refine ⟨fun i d e => ?_, fun i hi => ⟨vs, h', by rw [r.length]; rw [enumD_len] at hi; exact hi⟩⟩
  rw [enumD_get] at e
  obtain ⟨d', e1, rfl⟩ := Option.map_eq_some_iff.mp e
  obtain ⟨v, ev, rv⟩ := r'.get e1
  refine ⟨⟨vs, v, h', ev⟩, fun x H' y => ?_⟩
  obtain ⟨T, x, rfl, hT, rfl, y⟩ := y
  have := y vs h'
  rw [ev] at this; cases this
  refine ⟨Ex.new hT, .tup (fun z => hO T z hT) (.inl upd_same) (.cons ?_ (.cons (rv.go (Goes1.ex (Ex.new hT))) .nil))⟩
  rw [Nat.zero_add]
  exact .int _
theorem zipD_get : ∀ (ds es : List D) (i : Nat), (zipD ds es)[i]? = (match ds[i]?, es[i]? with | some d, some e => some (.tup [d, e]) | _, _ => none)
  | [], es, i => by simp [zipD]
  | d :: ds, [], i => by simp [zipD]
  | d :: ds, e :: es, 0 => by simp [zipD]
  | d :: ds, e :: es, i + 1 => by simp only [zipD, List.getElem?_cons_succ, zipD_get ds es i]
theorem zipD_len : ∀ (ds es : List D), (zipD ds es).length = min ds.length es.length
  | [], es => by simp [zipD]
  | d :: ds, [] => by simp [zipD]
  | d :: ds, e :: es => by simp only [zipD, List.length_cons, zipD_len ds es]; omega
theorem walk_zip (sw : ∀ a, Wa a → Os a) (n : ¬ Wa a) (h : Rd Hs a (.lst vs)) (r : Rps Hs Os vs ds) (n2 : ¬ Wa b) (h2 : Rd Hs b (.lst ws)) (r2 : Rps Hs Os ws es) : Walks (Itz K a b) (zipD ds es) Hs Wa Os := fun H O k o hO => by
  have h' : SqL K H a vs := .inl (kept_rd k n h)
  have r' : Rps H O vs ds := r.go (goes_of sw k o)
  have h2' : SqL K H b ws := .inl (kept_rd k n2 h2)
  have r2' : Rps H O ws es := r2.go (goes_of sw k o)
  refine ⟨fun i d e => ?_, fun i hi => ⟨vs, ws, h', h2', ?_⟩⟩
  · rw [zipD_get] at e
    split at e
    · rename_i d1 d2 e1 e2
      cases e
      obtain ⟨v, ev, rv⟩ := r'.get e1
      obtain ⟨w, ew, rw'⟩ := r2'.get e2
      refine ⟨⟨vs, ws, v, w, h', h2', ev, ew⟩, fun x H' y => ?_⟩
      obtain ⟨T, x, y', rfl, hT, rfl, y1, y2⟩ := y
      have t1 := y1 vs h'
      rw [ev] at t1; cases t1
      have t2 := y2 ws h2'
      rw [ew] at t2; cases t2
      exact ⟨Ex.new hT, .tup (fun z => hO T z hT) (.inl upd_same) (.cons (rv.go (Goes1.ex (Ex.new hT))) (.cons (rw'.go (Goes1.ex (Ex.new hT))) .nil))⟩
    · cases e
  · rw [zipD_len] at hi
    rw [r.length, r2.length]
    omega
theorem walk_zipT (sw : ∀ a, Wa a → Os a) (n : ¬ Wa a) (h : Rd Hs a (.tup vs)) (r : Rps Hs Os vs ds) (n2 : ¬ Wa b) (h2 : Rd Hs b (.tup ws)) (r2 : Rps Hs Os ws es) : Walks (RZ.ItzT K a b) (zipD ds es) Hs Wa Os := fun H O k o hO => by
  have h' : SqT K H a vs := .inl (kept_rd k n h)
  have r' : Rps H O vs ds := r.go (goes_of sw k o)
  have h2' : SqT K H b ws := .inl (kept_rd k n2 h2)
  have r2' : Rps H O ws es := r2.go (goes_of sw k o)
  refine ⟨fun i d e => ?_, fun i hi => ⟨vs, ws, h', h2', ?_⟩⟩
  · rw [zipD_get] at e
    split at e
    · rename_i d1 d2 e1 e2
      cases e
      obtain ⟨v, ev, rv⟩ := r'.get e1
      obtain ⟨w, ew, rw'⟩ := r2'.get e2
      refine ⟨⟨vs, ws, v, w, h', h2', ev, ew⟩, fun x H' y => ?_⟩
      obtain ⟨T, x, y', rfl, hT, rfl, y1, y2⟩ := y
      have t1 := y1 vs h'
      rw [ev] at t1; cases t1
      have t2 := y2 ws h2'
      rw [ew] at t2; cases t2
      exact ⟨Ex.new hT, .tup (fun z => hO T z hT) (.inl upd_same) (.cons (rv.go (Goes1.ex (Ex.new hT))) (.cons (rw'.go (Goes1.ex (Ex.new hT))) .nil))⟩
    · cases e
  · rw [zipD_len] at hi
    rw [r.length, r2.length]
    omega
theorem walk_chars (x : Str) : Walks (Its x) (chars x) Hs Wa Os := fun H O k o _ => by
  refine ⟨fun i d e => ?_, fun i hi => by simpa [chars, Its] using hi⟩
  simp only [chars, List.getElem?_map] at e
  obtain ⟨c, ec, rfl⟩ := Option.map_eq_some_iff.mp e
  have hi : i < x.cps.size := by
    have := (List.getElem?_eq_some_iff.mp ec).1
    simpa using this
  have ec' : x.cps[i]? = some c := by simpa using ec
  refine ⟨hi, fun v H' y => ?_⟩
  obtain ⟨rfl, c', e1, rfl⟩ := y
  rw [ec'] at e1; cases e1
  exact ⟨Ex.rfl', .str _⟩
theorem walk_rev (sw : ∀ a, Wa a → Os a) (n : ¬ Wa a) (h : Rd Hs a (.lst vs)) (r : Rps Hs Os vs ds) : Walks (Itv K a vs.length) ds.reverse Hs Wa Os := fun H O k o _ => by
  have h' : SqL K H a vs := .inl (kept_rd k n h)
  have r' : Rps H O vs ds := r.go (goes_of sw k o)
  have hl := r.length
  refine ⟨fun i d e => ?_, fun i hi => by show vs.length ≤ i; rw [List.length_reverse] at hi; omega⟩
  have hi : i < ds.length := by
    have := (List.getElem?_eq_some_iff.mp e).1
    simpa using this
  rw [List.getElem?_reverse hi] at e
  obtain ⟨v, ev, rv⟩ := r'.get e
  have ev' : vs[vs.length - 1 - i]? = some v := by rw [hl]; exact ev
  refine ⟨⟨by omega, vs, v, h', ev'⟩, fun x H' y => ?_⟩
  obtain ⟨rfl, y⟩ := y
  have := y vs h'
  rw [ev'] at this; cases this
  exact ⟨Ex.rfl', rv⟩
end

/-! ### the readings of what is walked -/
section
variable {μ : Mo} {C : Calls} {σ : L2.St} {H : Hp} {a b : E} {K : PySem.W.Frag} {Rk : It → Hp → Prop}
theorem _root_.L2.PI.or {X : Cx} {tg it : Expr} {w w' : TI} (h : PI X tg it w) (h' : PI X tg it w') : PI X tg it (fun σ H R => w σ H R ∨ w' σ H R) := ⟨fun pins s σ H R I q => by
  rcases q with q | q
  · exact h.run pins s σ H R I q
  · exact h'.run pins s σ H R I q⟩
theorem _root_.L2.PI.imp {X : Cx} {tg it : Expr} {w w' : TI} (h : PI X tg it w) (k : ∀ σ H R, w' σ H R → w σ H R) : PI X tg it w' := ⟨fun pins s σ H R I q => h.run pins s σ H R I (k σ H R q)⟩
theorem PostG.imp {α β : Type} {Ox : OS} {H0 : Hp} {M Wa : OS} {q : Bool} {Rs : Env → α → β → Hp → Prop} {Q Q' : β → Hp → Prop} {m : R α} (h : PostG μ Ox H0 M Wa q σ H Rs Q m)
    (k : ∀ r env1 v H1, m = .ok r env1 → Fr Wa q H H1 → (∀ a, WA env1 σ a → Wa a) → Rs env1 r v H1 → Q v H1 → Q' v H1) : PostG μ Ox H0 M Wa q σ H Rs Q' m := by
  cases m with
  | ok r env1 => exact fun v H1 f s rs => k r env1 v H1 rfl f s rs (h v H1 f s rs)
  | exc x env1 => exact h
  | stuck => exact h
theorem nowrite {Ox : OS} {H0 : Hp} {M : OS} {env : Env} {r : Val} {p : Addr} {ds : D} (e : EvR Ox H0 M env σ H) (h : Hold (All Ox env σ) Ox σ H r (.ref p)) (hl : low r = some ds) : ¬ WA env σ p := fun z => by
  obtain ⟨m, d⟩ := r
  cases m with
  | sh =>
    cases (show Rp H (All Ox env σ) (.ref p) d from h) with
    | tup n => exact n (.inr z)
    | lst n => exact n (.inr z)
    | dic n => exact n (.inr z)
    | dicN n => exact n (.inr z)
  | fr =>
    obtain ⟨p', e', hx, _⟩ := h
    cases e'
    exact (e.owa z).1 hx
  | bo => cases hl
  | mu i => cases hl
theorem rdy_low {r : Val} {d : D} (h : low r = some d) : rdy r = some d := by
  obtain ⟨m, d'⟩ := r
  cases m with
  | sh => exact h
  | fr => exact h
  | bo => cases h
  | mu i => cases h
/-- the one value, behind which nothing else is looked at -/
theorem rdI_one {k : ItK} (hk : k.two = false) (hb : b = .nix) (h : rdI μ C k a b σ H Rk) : ∃ Ox H0 M env, EvR Ox H0 M env σ H ∧
    PostE μ Ox H0 M (WA env σ) a.quiet σ H (fun v H1 => ∃ Ox1 env1 r d xs, EvR Ox1 H0 M env1 σ H1 ∧ evE C a env = .ok r env1 ∧ low r = some d ∧ src1 k d = some xs ∧ Hold (All Ox1 env1 σ) Ox1 σ H1 r v ∧
      ∀ J H2, Ex H1 H2 → Walks J xs H2 (WA env1 σ) (All Ox1 env1 σ) → Rk J H2) (evE C a env) := by
  obtain ⟨Ox, H0, M, env, e, h⟩ := h
  subst hb
  refine ⟨Ox, H0, M, env, e, PostG.bind (by simp only [evI] at h; exact h) fun r env1 v H1 hm f s rs h1 => ?_⟩
  obtain ⟨Ox1, so, sb, e1, hd⟩ := rs.ev
  simp only [evE, R.bind_ok] at h1
  cases hr : low r with
  | none => simp only [hr] at h1; exact h1.elim
  | some d =>
    simp only [hr, show low (Md.sh, D.non) = some D.non from rfl, hk, Bool.false_eq_true, if_false] at h1
    cases hs : src1 k d with
    | none => simp only [hs] at h1; exact h1.elim
    | some xs =>
      simp only [hs] at h1
      refine ⟨Ox1, env1, r, d, xs, e1, hm, hr, hs, hd, fun J H2 x w => ?_⟩
      exact h1 J H2 (f.trans (q := a.quiet && E.nix.quiet) (x.fr (Wa := WA env σ) (q := true)) (fun _ z => z) (by simp [E.quiet])) s ⟨Ox1, so, sb, e1.ex x, w⟩
theorem rd_seq (h : rdI μ C .seq a .nix σ H Rk) : iList K (rdE μ C a) σ H Rk ∨ iTup K (rdE μ C a) σ H Rk := by
  obtain ⟨Ox, H0, M, env, e, h⟩ := rdI_one rfl rfl h
  cases hm : evE C a env with
  | stuck => rw [hm] at h; exact h.elim
  | exc x env1 => exact .inl ⟨Ox, H0, M, env, e, by rw [hm] at h ⊢; exact h⟩
  | ok r env1 =>
    rw [hm] at h
    cases hr : low r with
    | none =>
      refine .inl ⟨Ox, H0, M, env, e, ?_⟩
      rw [hm]
      intro v H1 f s rs
      obtain ⟨_, _, r', d, xs, _, e', hl, _⟩ := h v H1 f s rs
      cases e'
      rw [hr] at hl; cases hl
    | some d =>
      cases d with
      | lst ds =>
        refine .inl ⟨Ox, H0, M, env, e, ?_⟩
        rw [hm]
        intro v H1 f s rs
        obtain ⟨Ox1, env2, r', d, xs, e1, e', hl, hs, hd, k⟩ := h v H1 f s rs
        cases e'
        rw [hr] at hl; cases hl
        cases hs
        obtain ⟨p, vs, rfl, hp, rr⟩ := hd.top (O2 := All Ox1 env1 σ) e1 (rdy_low hr) (Ex.fr Ex.rfl' (q := true)) (fun _ => rfl) fun _ z => .inl z
        exact ⟨p, rfl, ⟨vs, .inl hp⟩, k _ H1 Ex.rfl' (walk_list (fun _ z => .inr z) (nowrite e1 hd hr) hp rr)⟩
      | tup ds =>
        refine .inr ⟨Ox, H0, M, env, e, ?_⟩
        rw [hm]
        intro v H1 f s rs
        obtain ⟨Ox1, env2, r', d, xs, e1, e', hl, hs, hd, k⟩ := h v H1 f s rs
        cases e'
        rw [hr] at hl; cases hl
        cases hs
        obtain ⟨p, vs, rfl, n, hp, rr⟩ := RpT.tup (hd.top (O2 := All Ox1 env1 σ) e1 (rdy_low hr) (Ex.fr Ex.rfl' (q := true)) (fun _ => rfl) fun _ z => .inl z)
        exact ⟨p, rfl, ⟨vs, .inl hp⟩, k _ H1 Ex.rfl' (walk_tup (fun _ z => .inr z) (nowrite e1 hd hr) hp rr)⟩
      | _ =>
        refine .inl ⟨Ox, H0, M, env, e, ?_⟩
        rw [hm]
        intro v H1 f s rs
        obtain ⟨_, _, r', d, xs, _, e', hl, hs, _⟩ := h v H1 f s rs
        cases e'
        rw [hr] at hl; cases hl
        cases hs
theorem rd_rng (h : rdI μ C .rng a .nix σ H Rk) : iRng1 (tCons (rdE μ C a) tNil) σ H Rk := by
  obtain ⟨Ox, H0, M, env, e, h⟩ := rdI_one rfl rfl h
  refine ⟨Ox, H0, M, env, e, PostG.imp h fun r env1 v H1 hm f s rs h1 => ?_⟩
  obtain ⟨Ox1, env2, r', d, xs, e1, e', hl, hs, hd, k⟩ := h1
  rw [hm] at e'; cases e'
  cases d with
  | int n =>
    simp only [src1] at hs
    split at hs
    · rename_i hn
      cases hs
      simp only [Bool.and_eq_true, decide_eq_true_eq] at hn
      have hv := RpT.int (hd.top (O2 := All Ox1 env1 σ) e1 (rdy_low hl) (Ex.fr Ex.rfl' (q := true)) (fun _ => rfl) fun _ z => .inl z)
      subst hv
      exact ⟨n, rfl, hn.1, hn.2, k _ H1 Ex.rfl' (walk_range 0 n.toNat)⟩
    · cases hs
  | _ => cases hs
theorem rd_enum (h : rdI μ C .enum a .nix σ H Rk) : iEnum K (tCons (rdE μ C a) tNil) σ H Rk := by
  obtain ⟨Ox, H0, M, env, e, h⟩ := rdI_one rfl rfl h
  refine ⟨Ox, H0, M, env, e, PostG.imp h fun r env1 v H1 hm f s rs h1 => ?_⟩
  obtain ⟨Ox1, env2, r', d, xs, e1, e', hl, hs, hd, k⟩ := h1
  rw [hm] at e'; cases e'
  cases d with
  | lst ds =>
    cases hs
    obtain ⟨p, vs, rfl, hp, rr⟩ := hd.top (O2 := All Ox1 env1 σ) e1 (rdy_low hl) (Ex.fr Ex.rfl' (q := true)) (fun _ => rfl) fun _ z => .inl z
    exact ⟨p, vs, rfl, .inl hp, k _ H1 Ex.rfl' (walk_enum (fun _ z => .inr z) (nowrite e1 hd hl) hp rr)⟩
  | _ => cases hs
theorem rd_rev (h : rdI μ C .rev a .nix σ H Rk) : iRev K (tCons (rdE μ C a) tNil) σ H Rk := by
  obtain ⟨Ox, H0, M, env, e, h⟩ := rdI_one rfl rfl h
  refine ⟨Ox, H0, M, env, e, PostG.imp h fun r env1 v H1 hm f s rs h1 => ?_⟩
  obtain ⟨Ox1, env2, r', d, xs, e1, e', hl, hs, hd, k⟩ := h1
  rw [hm] at e'; cases e'
  cases d with
  | lst ds =>
    cases hs
    obtain ⟨p, vs, rfl, hp, rr⟩ := hd.top (O2 := All Ox1 env1 σ) e1 (rdy_low hl) (Ex.fr Ex.rfl' (q := true)) (fun _ => rfl) fun _ z => .inl z
    exact ⟨p, vs, rfl, .inl hp, k _ H1 Ex.rfl' (walk_rev (fun _ z => .inr z) (nowrite e1 hd hl) hp rr)⟩
  | _ => cases hs
theorem rd_chars (h : rdI μ C .chars a .nix σ H Rk) : iStr (rdE μ C a) σ H Rk := by
  obtain ⟨Ox, H0, M, env, e, h⟩ := rdI_one rfl rfl h
  refine ⟨Ox, H0, M, env, e, PostG.imp h fun r env1 v H1 hm f s rs h1 => ?_⟩
  obtain ⟨Ox1, env2, r', d, xs, e1, e', hl, hs, hd, k⟩ := h1
  rw [hm] at e'; cases e'
  cases d with
  | str x =>
    cases hs
    have hv := RpT.str (hd.top (O2 := All Ox1 env1 σ) e1 (rdy_low hl) (Ex.fr Ex.rfl' (q := true)) (fun _ => rfl) fun _ z => .inl z)
    exact ⟨x, hv, k _ H1 Ex.rfl' (walk_chars x)⟩
  | _ => cases hs
/-- two values -/
theorem rdI_two {k : ItK} (hk : k.two = true) (h : rdI μ C k a b σ H Rk) : rdE μ C a σ H fun v H1 => rdE μ C b σ H1 fun w H2 => ∃ O Wr d d' xs, RpT H2 O v d ∧ RpT H2 O w d' ∧ (∀ p, v = .ref p → ¬ Wr p) ∧ (∀ p, w = .ref p → ¬ Wr p) ∧ (∀ a, Wr a → O a) ∧ src2 k d d' = some xs ∧
      ∀ J, Walks J xs H2 Wr O → Rk J H2 := by
  obtain ⟨Ox, H0, M, env, e, h⟩ := h
  refine ⟨Ox, H0, M, env, e, PostG.bind (by simp only [evI] at h; exact h) fun r env1 v H1 hm f s rs h1 => ?_⟩
  obtain ⟨Ox1, so, sb, e1, hd⟩ := rs.ev
  refine ⟨Ox1, H0, M, env1, e1, PostG.bind (PostG.rebase (Ox1 := Ox1) (qb := b.quiet) h1 f s so (by simp) fun _ _ _ _ _ z => z) fun r2 env2 w H2 hm2 f2 s2 rs2 h2 => ?_⟩
  obtain ⟨Ox2, so2, sb2, e2, hd2⟩ := rs2.ev
  cases hr : low r with
  | none => simp only [hr] at h2; exact h2.elim
  | some d =>
    cases hr2 : low r2 with
    | none => simp only [hr, hr2] at h2; exact h2.elim
    | some d' =>
      simp only [hr, hr2, hk, if_true] at h2
      cases hs : src2 k d d' with
      | none => simp only [hs] at h2; exact h2.elim
      | some xs =>
        simp only [hs] at h2
        have hb : inp r = false := by
          obtain ⟨m, dd⟩ := r
          cases m <;> first | rfl | (cases hr; done)
        have hd' := hd.move e1 hb f2 so2 sb2 s2
        refine ⟨All Ox2 env2 σ, WA env2 σ, d, d', xs, hd'.top e2 (rdy_low hr) (Ex.fr Ex.rfl' (q := true)) (fun _ => rfl) (fun _ z => .inl z), hd2.top e2 (rdy_low hr2) (Ex.fr Ex.rfl' (q := true)) (fun _ => rfl) (fun _ z => .inl z),
          fun p hp => ?_, fun p hp => ?_, fun _ z => .inr z, hs, fun J w => ?_⟩
        · subst hp; exact nowrite e2 hd' hr
        · subst hp; exact nowrite e2 hd2 hr2
        · refine h2 J H2 f2 s2 ⟨Ox2, fun a z => so2 a (so a z), fun a z => ?_, e2, w⟩
          rcases sb2 a z with z | z | z
          · exact sb a z
          · exact .inr (.inl (f.none_back z))
          · exact .inr (.inr (s a z))
theorem rd_rng2 (h : rdI μ C .rng2 a b σ H Rk) : iRng2 (tCons (rdE μ C a) (tCons (rdE μ C b) tNil)) σ H Rk := by
  obtain ⟨Ox, H0, M, env, e, h⟩ := rdI_two rfl h
  refine ⟨Ox, H0, M, env, e, PostG.imp h fun r env1 v H1 hm f s rs h1 => ?_⟩
  obtain ⟨Ox1, H01, M1, env1', e1, h1⟩ := h1
  refine ⟨Ox1, H01, M1, env1', e1, PostG.imp h1 fun r2 env2 w H2 hm2 f2 s2 rs2 h2 => ?_⟩
  obtain ⟨O, Wr, d, d', xs, hv, hw, _, _, _, hs, k⟩ := h2
  cases d with
  | int m => cases d' with
    | int n =>
      simp only [src2] at hs
      split at hs
      · rename_i hn
        cases hs
        simp only [Bool.and_eq_true, decide_eq_true_eq] at hn
        exact ⟨m, n, by rw [hv.int, hw.int], ⟨hn.1.1.1, hn.1.1.2, hn.1.2, hn.2⟩, k _ (walk_range m _)⟩
      · cases hs
    | _ => cases hs
  | _ => cases hs
theorem rd_zip (h : rdI μ C .zip a b σ H Rk) : RZ.iZipA K (tCons (rdE μ C a) (tCons (rdE μ C b) tNil)) σ H Rk := by
  obtain ⟨Ox, H0, M, env, e, h⟩ := rdI_two rfl h
  refine ⟨Ox, H0, M, env, e, PostG.imp h fun r env1 v H1 hm f s rs h1 => ?_⟩
  obtain ⟨Ox1, H01, M1, env1', e1, h1⟩ := h1
  refine ⟨Ox1, H01, M1, env1', e1, PostG.imp h1 fun r2 env2 w H2 hm2 f2 s2 rs2 h2 => ?_⟩
  obtain ⟨O, Wr, d, d', xs, hv, hw, n1, n2, sw, hs, k⟩ := h2
  cases d with
  | lst ds => cases d' with
    | lst es =>
      cases hs
      obtain ⟨p, vs, rfl, hp, rr⟩ := hv
      obtain ⟨p2, ws, rfl, hp2, rr2⟩ := hw
      exact ⟨p, p2, vs, ws, rfl, .inl ⟨.inl hp, .inl hp2, k _ (walk_zip sw (n1 p rfl) hp rr (n2 p2 rfl) hp2 rr2)⟩⟩
    | _ => cases hs
  | tup ds => cases d' with
    | tup es =>
      cases hs
      obtain ⟨p, vs, rfl, _, hp, rr⟩ := hv.tup
      obtain ⟨p2, ws, rfl, _, hp2, rr2⟩ := hw.tup
      exact ⟨p, p2, vs, ws, rfl, .inr ⟨.inl hp, .inl hp2, k _ (walk_zipT sw (n1 p rfl) hp rr (n2 p2 rfl) hp2 rr2)⟩⟩
    | _ => cases hs
  | _ => cases hs
end
end En
end

section
set_option Elab.async false
set_option linter.all false
set_option maxRecDepth 100000
set_option maxHeartbeats 4000000
namespace En
open PySem PySem.Spec L2
variable [Wd]

/-! ### targets -/
def gsOf : List Nat → TGs
  | [] => gNil
  | i :: is => gCons (gName i) (gsOf is)
def gOf (K : PySem.W.Frag) : Tg → TG
  | .one i => gName i
  | .many is => fun v σ H Q => gTup K is.length (gsOf is) v σ H Q ∨ gUnl K is.length (gsOf is) v σ H Q
theorem wipe_set {vs : List Nat} {i : Nat} {x : Option V} : ∀ {σ : L2.St}, i ∈ vs → wipe (σ.set i x) vs = wipe σ vs := by
  induction vs with
  | nil => intro σ h; cases h
  | cons v vs ih =>
    intro σ h
    unfold wipe
    by_cases hv : i ∈ vs
    · rw [ih hv]
    · have e : i = v := by
        rcases List.mem_cons.mp h with h | h
        · exact h
        · exact absurd h hv
      subst e
      have c : ∀ (vs : List Nat) (σ : L2.St), i ∉ vs → wipe (σ.set i x) vs = (wipe σ vs).set i x := by
        intro vs
        induction vs with
        | nil => intro σ _; rfl
        | cons w ws ihw =>
          intro σ hn
          unfold wipe
          rw [ihw σ fun z => hn (List.mem_cons_of_mem _ z), List.set_comm _ _ (fun z => hn (by rw [z]; exact List.mem_cons_self))]
      rw [c vs σ hv, List.set_set]
section
variable {K : PySem.W.Frag} {Ox : OS} {H0 : Hp} {M : OS} {env env' : Env} {σ : L2.St} {H : Hp}
theorem bind1_ok {i : Nat} {d : D} {v : V} (e : EvR Ox H0 M env σ H) (r : Rp H (All Ox env σ) v d) (h : bind1 i d env = some env') :
    EvR Ox H0 M env' (σ.set i (some v)) H ∧ ∀ a, WA env' (σ.set i (some v)) a → WA env σ a := by
  unfold bind1 at h
  split at h
  · cases h
  · split at h
    · rename_i hi
      cases h
      exact ⟨e.put hi r, WA_set_sh hi⟩
    · cases h
theorem gs_ok {Qg : L2.St → Hp → Prop} : ∀ {is : List Nat} {vs : List V} {ds : List D} {env : Env} {σ : L2.St}, EvR Ox H0 M env σ H → Rps H (All Ox env σ) vs ds → bindL is ds env = some env' →
    (∀ σ', EvR Ox H0 M env' σ' H → (∀ a, WA env' σ' a → WA env σ a) → (∀ ws, (∀ i ∈ is, i ∈ ws) → wipe σ' ws = wipe σ ws) → Qg σ' H) → gsOf is vs σ H Qg := by
  intro is
  induction is with
  | nil =>
    intro vs ds env σ e r h k
    cases r with
    | nil => cases h; exact ⟨rfl, k σ e (fun _ z => z) fun _ _ => rfl⟩
    | cons => cases h
  | cons i is ih =>
    intro vs ds env σ e r h k
    cases r with
    | nil => cases h
    | @cons v vs d ds r1 r2 =>
      simp only [bindL] at h
      obtain ⟨env1, h1, h2⟩ := Option.bind_eq_some_iff.mp h
      obtain ⟨e1, w1⟩ := bind1_ok e r1 h1
      refine ⟨v, vs, rfl, ih e1 (r2.go (Goes1.less fun a z => z.imp id (w1 a))) h2 fun σ' e' w' hw => k σ' e' (fun a z => w1 a (w' a z)) fun ws hs => ?_⟩
      rw [hw ws fun j hj => hs j (List.mem_cons_of_mem _ hj), wipe_set (hs i List.mem_cons_self)]
theorem g_ok {tg : Tg} {d : D} {v : V} {Qg : L2.St → Hp → Prop} (e : EvR Ox H0 M env σ H) (r : Rp H (All Ox env σ) v d) (h : bindTg tg d env = some env')
    (k : ∀ σ', EvR Ox H0 M env' σ' H → (∀ a, WA env' σ' a → WA env σ a) → (∀ ws, (∀ i ∈ tgL tg, i ∈ ws) → wipe σ' ws = wipe σ ws) → Qg σ' H) : gOf K tg v σ H Qg := by
  cases tg with
  | one i =>
    obtain ⟨e1, w1⟩ := bind1_ok e r h
    exact k _ e1 w1 fun ws hs => wipe_set (hs i (by simp [tgL]))
  | many is =>
    have len : ∀ (is : List Nat) (ds : List D) (env : Env), bindL is ds env = some env' → ds.length = is.length := by
      intro is
      induction is with
      | nil => intro ds env h; cases ds with
        | nil => rfl
        | cons => cases h
      | cons i is ih => intro ds env h; cases ds with
        | nil => cases h
        | cons d ds =>
          simp only [bindL] at h
          obtain ⟨_, _, h2⟩ := Option.bind_eq_some_iff.mp h
          simp only [List.length_cons, ih ds _ h2]
    cases d with
    | tup ds =>
      cases r with
      | @tup a vs ds n hr rr => exact .inl ⟨a, vs, rfl, .inl hr, by rw [rr.length]; exact len is ds env h, gs_ok e rr h k⟩
    | lst ds =>
      cases r with
      | @lst a vs ds n hr rr => exact .inr ⟨a, vs, rfl, .inl hr, by rw [rr.length]; exact len is ds env h, gs_ok e rr h k⟩
    | _ => cases h

/-! ### comprehensions -/
theorem getS_wipe {vs : List Nat} {i : Nat} : getS (wipeE env vs) i = if i ∈ vs then none else getS env i := by
  induction vs with
  | nil => simp [wipeE]
  | cons v vs ih =>
    show getS (setS (wipeE env vs) v none) i = _
    rw [getS_set]
    by_cases h : i = v
    · subst h
      by_cases hl : i < (wipeE env vs).length
      · rw [if_pos ⟨rfl, hl⟩, if_pos List.mem_cons_self]
      · have : getS (wipeE env vs) i = none := by
          unfold getS; rw [List.getElem?_eq_none (by omega)]; rfl
        rw [if_neg (fun z => hl z.2), if_pos List.mem_cons_self, this]
    · rw [if_neg (fun z => h z.1), ih]
      by_cases hm : i ∈ vs
      · rw [if_pos hm, if_pos (List.mem_cons_of_mem _ hm)]
      · rw [if_neg hm, if_neg (fun z => (List.mem_cons.mp z).elim h hm)]
theorem wipeE_len (vs : List Nat) : (wipeE env vs).length = env.length := by
  induction vs with
  | nil => rfl
  | cons v vs ih => show ((wipeE env vs).set v none).length = _; rw [List.length_set, ih]
theorem wipe_get {vs : List Nat} {i : Nat} (h : i ∉ vs) : (wipe σ vs)[i]? = σ[i]? := L2.wipe_out h
/-- only the slots that are told count -/
theorem EvR.slots {σ' : L2.St} (e : EvR Ox H0 M env σ H) (hl : σ'.length = σ.length) (hs : ∀ i, getS env i ≠ none → σ'[i]? = σ[i]?) : EvR Ox H0 M env σ' H ∧ ∀ a, WA env σ' a ↔ WA env σ a := by
  have w : ∀ a, WA env σ' a ↔ WA env σ a := fun a => ⟨fun ⟨i, hi, h⟩ => by
    obtain ⟨m, d, hg, _⟩ := isOw_iff.mp hi
    exact ⟨i, hi, by rw [← hs i (by rw [hg]; simp)]; exact h⟩, fun ⟨i, hi, h⟩ => by
    obtain ⟨m, d, hg, _⟩ := isOw_iff.mp hi
    exact ⟨i, hi, by rw [hs i (by rw [hg]; simp)]; exact h⟩⟩
  have g : Goes1 H H (All Ox env σ) (All Ox env σ') := Goes1.less fun a z => z.imp id (w a).mp
  refine ⟨⟨by rw [hl]; exact e.len, fun i d h => ?_, fun i m d h k => ?_, fun i j a hi hj si sj => ?_, e.pres, e.dom, e.mdom⟩, w⟩
  · obtain ⟨v, a, b⟩ := e.sh i d h
    exact ⟨v, by rw [hs i (by rw [h]; simp)]; exact a, b.go g⟩
  · obtain ⟨a, b, c, r⟩ := e.ow i m d h k
    exact ⟨a, by rw [hs i (by rw [h]; simp)]; exact b, c.go g fun o q => q, r⟩
  · obtain ⟨m, d, hg, _⟩ := isOw_iff.mp hi
    obtain ⟨m', d', hg', _⟩ := isOw_iff.mp hj
    exact e.inj i j a hi hj (by rw [← hs i (by rw [hg]; simp)]; exact si) (by rw [← hs j (by rw [hg']; simp)]; exact sj)
/-- names are forgotten -/
theorem EvR.wipes {vs : List Nat} (e : EvR Ox H0 M env σ H) (hv : ∀ i ∈ vs, isOw env i = false) : EvR Ox H0 M (wipeE env vs) σ H ∧ ∀ a, WA (wipeE env vs) σ a ↔ WA env σ a := by
  have ow : ∀ i, isOw (wipeE env vs) i = isOw env i := fun i => by
    unfold isOw
    rw [getS_wipe]
    by_cases h : i ∈ vs
    · rw [if_pos h]
      have := hv i h
      unfold isOw at this
      rw [this]
    · rw [if_neg h]
  have w : ∀ a, WA (wipeE env vs) σ a ↔ WA env σ a := fun a => ⟨fun ⟨i, hi, h⟩ => ⟨i, by rw [← ow]; exact hi, h⟩, fun ⟨i, hi, h⟩ => ⟨i, by rw [ow]; exact hi, h⟩⟩
  have g : Goes1 H H (All Ox env σ) (All Ox (wipeE env vs) σ) := Goes1.less fun a z => z.imp id (w a).mp
  have gs : ∀ i s, getS (wipeE env vs) i = some s → getS env i = some s := fun i s h => by
    rw [getS_wipe] at h
    split at h
    · cases h
    · exact h
  refine ⟨⟨by rw [wipeE_len]; exact e.len, fun i d h => ?_, fun i m d h k => ?_, fun i j a hi hj si sj => ?_, e.pres, e.dom, e.mdom⟩, w⟩
  · obtain ⟨v, a, b⟩ := e.sh i d (gs i _ h)
    exact ⟨v, a, b.go g⟩
  · obtain ⟨a, b, c, r⟩ := e.ow i m d (gs i _ h) k
    exact ⟨a, b, c.go g fun o q => q, r⟩
  · rw [ow] at hi hj
    exact e.inj i j a hi hj si sj
end

/-- a comprehension's block lets nothing out -/
def Mo.in (μ : Mo) : Mo := { μ with W := fun _ _ _ _ => False }

section
variable {μ : Mo} {C : Calls} {σ : L2.St} {H : Hp} {Q : VK} {a b c e : E} {K : PySem.W.Frag} {own : List (Str × Nat)} {tg : Tg} {k : ItK}
theorem wipe_wipe {vs : List Nat} {i : Nat} : i ∈ vs → i < σ.length → (wipe σ vs)[i]? = some none := by
  induction vs with
  | nil => intro h; cases h
  | cons v vs ih =>
    intro h hl
    show ((wipe σ vs).set v none)[i]? = _
    by_cases e : i = v
    · subst e
      rw [List.getElem?_set_self (by rw [wipe_length]; exact hl)]
    · rw [List.getElem?_set_ne (Ne.symm e)]
      exact ih ((List.mem_cons.mp h).resolve_left e) hl
theorem wipe_idem (vs : List Nat) : wipe (wipe σ vs) vs = wipe σ vs := by
  apply List.ext_getElem?
  intro i
  by_cases h : i ∈ vs
  · by_cases hl : i < σ.length
    · rw [wipe_wipe h (by rw [wipe_length]; exact hl), wipe_wipe h hl]
    · rw [List.getElem?_eq_none (by rw [wipe_length, wipe_length]; omega), List.getElem?_eq_none (by rw [wipe_length]; omega)]
  · rw [L2.wipe_out h]
theorem rd_lc (ht : ∀ i ∈ tgL tg, i ∈ own.map (·.2)) (h : rdE μ C (.lc own tg k a b c e) σ H Q) : tLc (rdI μ C k a b) (gOf K tg) (rdT μ.in C c) (rdE μ.in C e) (own.map (·.2)) σ H Q := by
  obtain ⟨Ox, H0, M, env, ev, h⟩ := h
  refine ⟨Ox, H0, M, env, ev, PostG.bind (by simp only [evE] at h; exact h) fun xs env1 J H1 hm f s rs h1 => ?_⟩
  obtain ⟨Ox1, so, sb, e1, wk⟩ := rs
  split at h1
  · exact h1.elim
  rename_i hown
  generalize hvs : own.map (·.2) = vs at *
  have hv : ∀ i ∈ vs, isOw env1 i = false := fun i hi => by
    cases hc : isOw env1 i with
    | false => rfl
    | true => exact absurd (List.any_eq_true.mpr ⟨i, hi, hc⟩) hown
  intro Dl hD
  have h0D : H0 Dl = none := e1.back hD
  obtain ⟨e1w, w1⟩ := e1.wipes hv
  have hno : ∀ j ∈ vs, getS (wipeE env1 vs) j = none := fun j hj => by rw [getS_wipe, if_pos hj]
  obtain ⟨e1s, w2⟩ := e1w.slots (σ' := wipe σ vs) (wipe_length σ vs) fun i hi => by
    by_cases hj : i ∈ vs
    · exact absurd (hno i hj) hi
    · exact L2.wipe_out hj
  refine ⟨fun i m Hc => ∃ et accV accD, m = xs.length - i ∧ i ≤ xs.length ∧ EvR (plus Ox1 Dl) H0 M et (wipe σ vs) Hc ∧ Fr (WA env1 σ) (c.quiet && e.quiet) H1 Hc ∧ (∀ x, WA et (wipe σ vs) x → WA env1 σ x) ∧ (∀ j ∈ vs, getS et j = none) ∧
      Hc Dl = some (.lst accV) ∧ Rps Hc (All (plus Ox1 Dl) et (wipe σ vs)) accV accD ∧
      PostE μ Ox H0 M (WA env σ) (E.lc own tg k a b c e).quiet σ H Q ((lcL (evE C c) (evE C e) tg vs (xs.drop i) accD et).bind fun ds env' => .ok (.fr, .lst ds) env'), ?_, ?_⟩
  · exact ⟨xs.length, wipeE env1 vs, [], [], by omega, Nat.zero_le _, e1s.add hD (Ex.new hD) (by rw [upd_same]; simp), (Ex.new hD).fr, fun x z => (w1 x).mp ((w2 x).mp z), hno, upd_same, .nil, by rw [List.drop_zero]; exact h1⟩
  · rintro i m Hc ⟨et, accV, accD, rfl, hi, ec, fc, wc, nc, hDl, ra, hP⟩
    have T : Turns J xs Hc (All (plus Ox1 Dl) et (wipe σ vs)) := wk Hc _ fc.keep (fun x z => by
      rcases z with (z | z) | z
      · exact .inl (.inl z)
      · exact .inr (by rw [z]; exact hD)
      · exact .inl (.inr (wc x z))) ec.domA
    by_cases hlt : i < xs.length
    · obtain ⟨go, yl⟩ := T.go i xs[i] (List.getElem?_eq_getElem hlt)
      refine .inr ⟨go, _, fun H' hN => ⟨xs.length - (i + 1), by omega, hN⟩, fun x H' y => ?_⟩
      obtain ⟨x', rx⟩ := yl x H' y
      rw [List.drop_eq_getElem_cons hlt, lcL] at hP
      have e2 := ec.ex x'
      cases hb : bindTg tg xs[i] et with
      | none => rw [hb] at hP; exact hP.elim
      | some eb =>
        rw [hb] at hP
        simp only at hP
        refine g_ok e2 rx hb fun σ2 e3 w3 hw3 => ⟨by rw [hw3 vs ht, wipe_idem], ?_⟩
        refine ⟨plus Ox1 Dl, H0, M, eb, e3, ?_⟩
        cases hc : evE C c eb with
        | stuck => rw [hc] at hP; exact hP.elim
        | exc z ez => rw [hc] at hP; exact (hP : False).elim
        | ok r env2 =>
          rw [hc] at hP
          simp only [R.hard_ok, R.bind_ok] at hP
          intro v H3 f3 s3 rs3
          have keepD : ∀ (Wx : OS) (q : Bool) (Ha Hb : Hp) (o : HO), Fr Wx q Ha Hb → (∀ z, Wx z → WA env1 σ z) → Ha Dl = some o → Hb Dl = some o := fun Wx q Ha Hb o fr sw ho => fr.keep Dl o ho fun z => (e1.owa (sw Dl z)).2 hD
          have w13 : ∀ z, WA eb σ2 z → WA env1 σ z := fun z hz => wc z (w3 z hz)
          have fc' : Fr (WA env1 σ) (c.quiet && e.quiet) H1 H' := fc.trans (x'.fr (Wa := WA env1 σ) (q := true)) (fun _ z => z) fun z => ⟨z, rfl⟩
          have hD' : H' Dl = some (.lst accV) := x' _ _ hDl
          have ra' : Rps H' (All (plus Ox1 Dl) et (wipe σ vs)) accV accD := ra.go (Goes1.ex x')
          have gb : Goes1 H' H3 (All (plus Ox1 Dl) et (wipe σ vs)) (All (plus Ox1 Dl) env2 σ2) := ⟨fun y o hy ny => f3.keep y o hy fun z => ny (.inr (w3 y z)), fun y z => .inl (z.imp id fun z => w3 y (s3 y z))⟩
          have ra3 : Rps H3 (All (plus Ox1 Dl) env2 σ2) accV accD := ra'.go gb
          have hD3 : H3 Dl = some (.lst accV) := keepD _ _ _ _ _ f3 w13 hD'
          have f13 : ∀ (q : Bool), (q = true → (c.quiet && e.quiet) = true ∧ c.quiet = true) → Fr (WA env1 σ) q H1 H3 := fun q hq => fc'.trans f3 w13 hq
          have nov : ∀ (ee : Env), (!vs.any (isOw ee)) = true → ∀ i ∈ vs, isOw ee i = false := fun ee hn i hi => by
            cases hc : isOw ee i with
            | false => rfl
            | true =>
              have := List.any_eq_true.mpr ⟨i, hi, hc⟩
              rw [this] at hn; cases hn
          obtain ⟨md, dd⟩ := r
          -- the end of a turn: names are forgotten, the slots are those of the start
          have fin : ∀ (env3 : Env) (H4 : Hp) (accV' : List V) (accD' : List D), EvR (plus Ox1 Dl) H0 M env3 σ2 H4 → (∀ z, WA env3 σ2 z → WA env1 σ z) → Fr (WA env1 σ) (c.quiet && e.quiet) H1 H4 → H4 Dl = some (.lst accV') → Rps H4 (All (plus Ox1 Dl) env3 σ2) accV' accD' → (∀ i ∈ vs, isOw env3 i = false) →
              PostE μ Ox H0 M (WA env σ) (E.lc own tg k a b c e).quiet σ H Q ((lcL (evE C c) (evE C e) tg vs (xs.drop (i + 1)) accD' (wipeE env3 vs)).bind fun ds env' => .ok (.fr, .lst ds) env') →
              ∃ et accV accD, xs.length - (i + 1) = xs.length - (i + 1) ∧ i + 1 ≤ xs.length ∧ EvR (plus Ox1 Dl) H0 M et (wipe σ vs) H4 ∧ Fr (WA env1 σ) (c.quiet && e.quiet) H1 H4 ∧ (∀ x, WA et (wipe σ vs) x → WA env1 σ x) ∧ (∀ j ∈ vs, getS et j = none) ∧
                H4 Dl = some (.lst accV) ∧ Rps H4 (All (plus Ox1 Dl) et (wipe σ vs)) accV accD ∧
                PostE μ Ox H0 M (WA env σ) (E.lc own tg k a b c e).quiet σ H Q ((lcL (evE C c) (evE C e) tg vs (xs.drop (i + 1)) accD et).bind fun ds env' => .ok (.fr, .lst ds) env') :=
            fun env3 H4 accV' accD' e4 w4 f4 hD4 ra4 hv4 hP4 => by
              obtain ⟨e4w, w4w⟩ := e4.wipes hv4
              have hno4 : ∀ j ∈ vs, getS (wipeE env3 vs) j = none := fun j hj => by rw [getS_wipe, if_pos hj]
              have hσ : wipe σ2 vs = wipe σ vs := by rw [hw3 vs ht, wipe_idem]
              obtain ⟨e5, w5⟩ := e4w.slots (σ' := wipe σ vs) (by rw [← hσ]; exact wipe_length σ2 vs) fun i hi => by
                by_cases hj : i ∈ vs
                · exact absurd (hno4 i hj) hi
                · rw [← hσ]; exact L2.wipe_out hj
              exact ⟨wipeE env3 vs, accV', accD', rfl, hlt, e5, f4, fun z hz => w4 z ((w4w z).mp ((w5 z).mp hz)), hno4, hD4, ra4.go (Goes1.less fun z hz => hz.imp id fun hz => (w4w z).mp ((w5 z).mp hz)), hP4⟩
          cases md with
          | sh =>
            cases dd with
            | bl bb =>
              have hvb : v = .bl bb := rs3.2.ofBl
              cases bb with
              | false =>
                refine ⟨false, hvb, iteF ?_⟩
                simp only at hP
                split at hP
                · rename_i hn
                  exact fin env2 H3 accV accD rs3.1 (fun z hz => w13 z (s3 z hz)) (f13 _ fun z => ⟨z, (Bool.and_eq_true _ _ ▸ z).1⟩) hD3 ra3 (nov env2 hn) hP
                · exact hP.elim
              | true =>
                refine ⟨true, hvb, iteT ?_⟩
                refine ⟨plus Ox1 Dl, H0, M, env2, rs3.1, ?_⟩
                simp only at hP
                cases he : evE C e env2 with
                | stuck => rw [he] at hP; exact hP.elim
                | exc z ez => rw [he] at hP; exact (hP : False).elim
                | ok r2 env3 =>
                  rw [he] at hP
                  simp only [R.hard_ok, R.bind_ok] at hP
                  intro y' H4 f4 s4 rs4
                  obtain ⟨Ox4, so4, sb4, e4, hd4⟩ := rs4.ev
                  have e4' := e4.less so4
                  have w24 : ∀ z, WA env2 σ2 z → WA env1 σ z := fun z hz => w13 z (s3 z hz)
                  cases hl : low r2 with
                  | none => rw [hl] at hP; exact hP.elim
                  | some d2 =>
                    rw [hl] at hP
                    simp only at hP
                    split at hP
                    · rename_i hn
                      simp only [Bool.and_eq_true] at hn
                      have hz := of_decide_eq_true hn.1
                      have hlen := ra3.length
                      have hD4 : H4 Dl = some (.lst accV) := keepD _ _ _ _ _ f4 w24 hD3
                      have hry : Rp H4 (All (plus Ox1 Dl) env3 σ2) y' d2 := hd4.rp e4 hl (Ex.fr Ex.rfl' (q := true)) (fun z hz => .inl (hz.imp (so4 z) id)) fun hf p hp hO => by
                        rcases hO with hO | hO
                        · exact fr_nox rs3.1 rs4 p hf hp hO
                        · obtain ⟨m2, dd2⟩ := r2
                          simp only at hf
                          subst hf
                          obtain ⟨p', rfl, hx, _⟩ := hd4
                          cases hp
                          exact (e4.owa hO).1 hx
                      have g34 : Goes1 H3 H4 (All (plus Ox1 Dl) env2 σ2) (All (plus Ox1 Dl) env3 σ2) := ⟨fun z o hz nz => f4.keep z o hz fun q => nz (.inr q), fun z hz => .inl (hz.imp id (s4 z))⟩
                      obtain ⟨e5, g5⟩ := e4'.away (p := Dl) (o := .lst (accV ++ [y'])) (.inr rfl) (.inl h0D)
                      have f14 : Fr (WA env1 σ) (c.quiet && e.quiet) H1 H4 := (f13 (c.quiet && e.quiet) (fun z => ⟨z, (Bool.and_eq_true _ _ ▸ z).1⟩)).trans f4 w24 fun z => ⟨z, (Bool.and_eq_true _ _ ▸ z).2⟩
                      refine ⟨accV, hD4, by omega, fin env3 _ (accV ++ [y']) (accD ++ [d2]) e5 (fun z hz => w24 z (s4 z hz)) ⟨fun z o hz nz => ?_, fun z hz => ?_, fun hq z o hz => ?_⟩ upd_same ((ra3.go g34).app (.cons hry .nil) |>.go g5) (nov env3 hn.2) hP⟩
                      · rw [upd_ne (fun q => by rw [q, hD] at hz; cases hz)]; exact f14.keep z o hz nz
                      · by_cases q : z = Dl
                        · rw [q, upd_same]; simp
                        · rw [upd_ne q]; exact f14.dom z hz
                      · rw [upd_ne (fun q => by rw [q, hD] at hz; cases hz)]; exact f14.ex hq z o hz
                    · exact hP.elim
            | _ => exact hP.elim
          | _ => exact (hP : False).elim
    · have ei : i = xs.length := by omega
      refine .inl ⟨T.stop i (by omega), ?_⟩
      rw [List.drop_of_length_le (by omega)] at hP
      simp only [lcL, R.bind_ok] at hP
      obtain ⟨e6, w6⟩ := ec.slots (σ' := σ) (wipe_length σ vs).symm fun j hj => by
        by_cases hm : j ∈ vs
        · exact absurd (nc j hm) hj
        · exact (L2.wipe_out hm).symm
      have sp : ∀ z, plus Ox Dl z → plus Ox1 Dl z := fun z hz => hz.imp (so z) id
      refine hP _ Hc (f.trans fc s fun z => ?_) (fun z hz => s z (wc z ((w6 z).mp hz))) ⟨Dl, rfl, .inl (f.none_back hD), h0D, e6.less sp, accV, hDl, ra.go (Goes1.less fun z hz => ?_)⟩
      · simp only [E.quiet, Bool.and_eq_true] at z ⊢
        exact ⟨⟨z.1.1.1, z.1.1.2⟩, z.1.2, z.2⟩
      · exact hz.imp (sp z) (w6 z).mp
end
end En
end

section
set_option Elab.async false
set_option linter.all false
set_option maxRecDepth 100000
set_option maxHeartbeats 4000000
namespace En
open PySem PySem.Spec L2
variable [Wd]

/-! ### statements -/
/-- what new owned things there may be -/
def SubS (Wa : OS) (H : Hp) (env : Env) (σ : L2.St) : Prop := ∀ a, WA env σ a → Wa a ∨ H a = none
def ResS (Ox : OS) (H0 : Hp) (M : OS) (σ : L2.St) (env : Env) : Val → V → Hp → Prop
  | (.sh, d), v, H' => EvR Ox H0 M env σ H' ∧ Rp H' (All Ox env σ) v d
  | (.fr, d), v, H' => ∃ p, v = .ref p ∧ H0 p = none ∧ EvR (plus Ox p) H0 M env σ H' ∧ OwnT H' (All (plus Ox p) env σ) p d
  | _, _, _ => False
def PostS (μ : Mo) (Ox : OS) (H0 : Hp) (M Wa : OS) (H : Hp) (D : Ends) : RS → Prop
  | .nx env' => ∀ σ' H', Fr Wa false H H' → SubS Wa H env' σ' → EvR Ox H0 M env' σ' H' → D.nx σ' H'
  | .rt r env' => ∀ v σ' H', Fr Wa false H H' → ResS Ox H0 M σ' env' r v H' → D.rt v H'
  | .exc x env' => ∀ cls dx σ' H', Fr Wa false H H' → EvR Ox H0 M env' σ' H' → μ.XR H' (All Ox env' σ') x cls dx → μ.W cls dx σ' H'
  | .stuck => False
def rdS (μ : Mo) (C : Calls) (s : S) : TS := fun D σ H => ∃ Ox H0 M env, EvR Ox H0 M env σ H ∧ PostS μ Ox H0 M (WA env σ) H D (evS C s env)

section
variable {μ : Mo} {C : Calls} {σ σ1 : L2.St} {H H1 : Hp} {D : Ends} {Ox Ox1 : OS} {H0 : Hp} {M Wa : OS} {env env1 : Env} {s t : S} {e : E}
theorem Fr.transS {H2 : Hp} {Wb : OS} (f : Fr Wa false H H1) (g : Fr Wb false H1 H2) (s : ∀ a, Wb a → Wa a ∨ H a = none) : Fr Wa false H H2 where
  keep := fun a o h n => g.keep a o (f.keep a o h n) fun z => (s a z).elim n fun z => by rw [h] at z; cases z
  dom := fun a h => g.dom a (f.dom a h)
  ex := fun z => nomatch z
theorem PostS.rebase {r : RS} (h : PostS μ Ox H0 M Wa H D r) (f : Fr Wa false H H1) (s : SubS Wa H env1 σ1) : PostS μ Ox H0 M (WA env1 σ1) H1 D r := by
  cases r with
  | nx env' => exact fun σ' H' f' s' e' => h σ' H' (f.transS f' s) (fun a z => (s' a z).elim (s a) fun z => .inr (f.none_back z)) e'
  | rt v env' => exact fun v σ' H' f' r' => h v σ' H' (f.transS f' s) r'
  | exc x env' => exact fun cls dx σ' H' f' e' x' => h cls dx σ' H' (f.transS f' s) e' x'
  | stuck => exact h.elim
theorem PostS.lessO {r : RS} (h : PostS μ Ox H0 M Wa H D r) (so : ∀ a, Ox a → Ox1 a) : PostS μ Ox1 H0 M Wa H D r := by
  cases r with
  | nx env' => exact fun σ' H' f' s' e' => h σ' H' f' s' (e'.less so)
  | rt v env' =>
    refine fun w σ' H' f' r' => h w σ' H' f' ?_
    obtain ⟨m, d⟩ := v
    cases m with
    | sh => exact ⟨r'.1.less so, r'.2.go (Goes1.less fun a z => z.imp (so a) id)⟩
    | fr =>
      obtain ⟨p, hp, h0, e', o'⟩ := r'
      have so' : ∀ a, plus Ox p a → plus Ox1 p a := fun a z => z.imp (so a) id
      exact ⟨p, hp, h0, e'.less so', o'.go (Goes1.less fun a z => z.imp (so' a) id) fun o q => q⟩
    | bo => exact r'
    | mu i => exact r'
  | exc x env' => exact fun cls dx σ' H' f' e' x' => h cls dx σ' H' f' (e'.less so) (μ.mono _ _ _ _ _ _ (fun a z => z.imp (so a) id) x')
  | stuck => exact h.elim
theorem sub_of (s : ∀ a, WA env1 σ a → WA env σ a) : SubS (WA env σ) H env1 σ := fun a z => .inl (s a z)
/-- an expression, then what follows -/
theorem PostS.ex {α β : Type} {Rs : Env → α → β → Hp → Prop} {Q' : β → Hp → Prop} {q : Bool} {m : R α} {k : α → Env → RS} (h : PostS μ Ox H0 M Wa H D (m.toS k))
    (hk : ∀ r env1 v H1, m = .ok r env1 → Fr Wa q H H1 → (∀ a, WA env1 σ a → Wa a) → Rs env1 r v H1 → PostS μ Ox H0 M Wa H D (k r env1) → Q' v H1) : PostG μ Ox H0 M Wa q σ H Rs Q' m := by
  cases m with
  | ok r env1 => exact fun v H1 f s r1 => hk r env1 v H1 rfl f s r1 h
  | exc x env1 => exact fun cls dx H' f s e x' => h cls dx σ H' f e x'
  | stuck => exact h.elim
theorem PostS.exE {Q' : VK} {q : Bool} {m : R Val} {k : Val → Env → RS} (h : PostS μ Ox H0 M Wa H D (m.toS k))
    (hk : ∀ r env1 v H1, m = .ok r env1 → Fr Wa q H H1 → (∀ a, WA env1 σ a → Wa a) → Res Ox H0 M Wa σ H env1 r v H1 → PostS μ Ox H0 M Wa H D (k r env1) → Q' v H1) : PostE μ Ox H0 M Wa q σ H Q' m :=
  PostS.ex (k := k) h hk

/-! the readings -/
theorem rd_skip (h : rdS μ C .skip D σ H) : tNext D σ H := by
  obtain ⟨Ox, H0, M, env, e, h⟩ := h
  exact h σ H (Ex.fr Ex.rfl') (fun a z => .inl z) e
theorem rd_seqS (h : rdS μ C (.seq s t) D σ H) : tSeq (rdS μ C s) (rdS μ C t) D σ H := by
  obtain ⟨Ox, H0, M, env, e, h⟩ := h
  refine ⟨Ox, H0, M, env, e, ?_⟩
  simp only [evS] at h
  cases hm : evS C s env with
  | nx env1 =>
    rw [hm] at h
    exact fun σ' H' f s' e' => ⟨Ox, H0, M, env1, e', h.rebase f s'⟩
  | rt v env1 => rw [hm] at h; exact h
  | exc x env1 => rw [hm] at h; exact h
  | stuck => rw [hm] at h; exact h
theorem rd_asg {i : Nat} {ow : Bool} (h : rdS μ C (.asg i ow e) D σ H) : tAsg (rdE μ C e) (gName i) D σ H := by
  obtain ⟨Ox, H0, M, env, ev, h⟩ := h
  refine ⟨Ox, H0, M, env, ev, PostS.exE (by simp only [evS] at h; exact h) fun r env1 v H1 hm f s rs h1 => ?_⟩
  obtain ⟨Ox1, so, sb, e1, hd⟩ := rs.ev
  split at h1
  · exact h1.elim
  split at h1
  · exact h1.elim
  rename_i hmu hi
  have hi' : i < env1.length := by omega
  show D.nx (σ.set i (some v)) H1
  have lowc : ∀ d, low r = some d → PostS μ Ox H0 M (WA env σ) H D (.nx (setS env1 i (some (.sh, d)))) → D.nx (σ.set i (some v)) H1 := fun d hl h1 => by
    have e2 := e1.less so
    have rv : Rp H1 (All Ox env1 σ) v d := hd.rp e1 hl (Ex.fr Ex.rfl' (q := true)) (fun a z => .inl (z.imp (so a) id)) fun hf p hp z => by
      rcases z with z | z
      · exact fr_nox ev rs p hf hp z
      · obtain ⟨m, dd⟩ := r
        simp only at hf
        subst hf
        obtain ⟨p', rfl, hx, _⟩ := hd
        cases hp
        exact (e1.owa z).1 hx
    exact h1 _ H1 f.lose (fun a z => .inl (s a (WA_set_sh hi' a z))) (e2.put hi' rv)
  cases ow with
  | false =>
    simp only at h1
    cases hl : low r with
    | none => rw [hl] at h1; exact h1.elim
    | some d => rw [hl] at h1; exact lowc d hl h1
  | true =>
    obtain ⟨m, d⟩ := r
    cases m with
    | fr =>
      obtain ⟨p, rfl, hp, h0, ep, op⟩ := rs
      have nx : ¬ Ox p := fun z => by
        rcases hp with hp | hp
        · exact ev.dom p z hp
        · exact (ev.owa hp).1 z
      refine h1 _ H1 f.lose (fun a z => ?_) (ep.putOw hi' nx h0 op)
      have hσ : i < σ.length := by rw [← ep.len]; exact hi'
      obtain ⟨j, hj, hs⟩ := z
      by_cases ej : j = i
      · subst ej
        rw [List.getElem?_set_self hσ] at hs
        cases hs
        exact hp.symm
      · rw [isOw_ne ej] at hj
        rw [List.getElem?_set_ne (Ne.symm ej)] at hs
        exact .inl (s a ⟨j, hj, hs⟩)
    | _ => exact (h1 : False).elim
theorem rd_ret (h : rdS μ C (.ret e) D σ H) : tRet (rdE μ C e) D σ H := by
  obtain ⟨Ox, H0, M, env, ev, h⟩ := h
  refine ⟨Ox, H0, M, env, ev, PostS.exE (by simp only [evS] at h; exact h) fun r env1 v H1 hm f s rs h1 => ?_⟩
  cases hl : low r with
  | none => rw [hl] at h1; exact h1.elim
  | some d =>
    rw [hl] at h1
    refine h1 v σ H1 f.lose ?_
    obtain ⟨m, dd⟩ := r
    cases m with
    | sh => exact rs
    | fr => obtain ⟨p, hp, _, h0, ep, op⟩ := rs; exact ⟨p, hp, h0, ep, op⟩
    | bo => cases hl
    | mu i => cases hl
theorem rd_retN (h : rdS μ C .retN D σ H) : tRetN D σ H := by
  obtain ⟨Ox, H0, M, env, ev, h⟩ := h
  simp only [evS] at h
  exact h .non σ H (Ex.fr Ex.rfl') ⟨ev, .non⟩
theorem rd_iteS (h : rdS μ C (.ite e s t) D σ H) : tIfS (rdT μ C e) (rdS μ C s) (rdS μ C t) D σ H := by
  obtain ⟨Ox, H0, M, env, ev, h⟩ := h
  refine ⟨Ox, H0, M, env, ev, PostS.exE (by simp only [evS] at h; exact h) fun r env1 v H1 hm f s rs h1 => ?_⟩
  split at h1
  · obtain ⟨rfl, e1⟩ := bl_of rs
    exact ⟨true, rfl, iteT ⟨Ox, H0, M, env1, e1, h1.rebase f.lose (sub_of s)⟩⟩
  · obtain ⟨rfl, e1⟩ := bl_of rs
    exact ⟨false, rfl, iteF ⟨Ox, H0, M, env1, e1, h1.rebase f.lose (sub_of s)⟩⟩
  · exact h1.elim
theorem rd_iteJ {vs : List Nat} (h : rdS μ C (.iteJ vs e s t) D σ H) : tIfS (rdT μ C e) (rdS μ C s) (rdS μ C t) D σ H := by
  obtain ⟨Ox, H0, M, env, ev, h⟩ := h
  exact rd_iteS ⟨Ox, H0, M, env, ev, by simpa only [evS] using h⟩
theorem rd_exS (h : rdS μ C (.ex e) D σ H) : tDrop (rdE μ C e) D σ H := by
  obtain ⟨Ox, H0, M, env, ev, h⟩ := h
  refine ⟨Ox, H0, M, env, ev, PostS.exE (by simp only [evS] at h; exact h) fun r env1 v H1 hm f s rs h1 => ?_⟩
  obtain ⟨Ox1, so, sb, e1, hd⟩ := rs.ev
  exact h1 σ H1 f.lose (sub_of s) (e1.less so)
theorem rd_never (h : rdS μ C .never D σ H) : tNever D σ H := by
  obtain ⟨Ox, H0, M, env, ev, h⟩ := h
  exact h
/-- name += e -/
def ipAdd : TIp := fun x y H Q => (∃ i j, x = .int i ∧ y = .int j ∧ Q (.int (i + j)) H) ∨ (∃ l b xs zs, x = .ref l ∧ y = .ref b ∧ H l = some (.lst xs) ∧ Rd H b (.lst zs) ∧ xs.length + zs.length ≤ sizeLine ∧ Q (.ref l) (upd H l (.lst (xs ++ zs))))
theorem aug_post {i : Nat} {r : Val} {v : V} (ev : EvR Ox H0 M env σ H) (f : Fr (WA env σ) false H H1) (s : ∀ a, WA env1 σ a → WA env σ a) (rs : Res Ox H0 M (WA env σ) σ H env1 r v H1) (x : V) (hx : σ[i]? = some (some x))
    (h : PostS μ Ox H0 M (WA env σ) H D (match getS env1 i, rdy r with
      | some (.sh, .int a), some (.int b) => .nx (setS env1 i (some (.sh, .int (a + b))))
      | some (m, .lst xs), some (.lst ys) => if m == .sh then .stuck else if szOk (xs.length + ys.length) then .nx (setS env1 i (some (m, .lst (xs ++ ys)))) else .stuck
      | _, _ => .stuck)) : ipAdd x v H1 fun z H2 => D.nx (σ.set i (some z)) H2 := by
  obtain ⟨Ox1, so, sb, e1, hd⟩ := rs.ev
  have e2 := e1.less so
  split at h
  · rename_i a b hg hr
    obtain ⟨u, hu, ru⟩ := e2.sh i _ hg
    rw [hx] at hu
    cases hu
    have hv := RpT.int (hd.top (O2 := All Ox1 env1 σ) e1 hr (Ex.fr Ex.rfl' (q := true)) (fun _ => rfl) fun _ z => .inl z)
    refine .inl ⟨a, b, ru.ofInt, hv, h _ H1 f (fun a z => .inl (s a (WA_set_sh (getS_lt hg) a z))) (e2.put (getS_lt hg) (.int _))⟩
  · rename_i m xs ys hg hr
    split at h
    · exact h.elim
    · rename_i hm
      have hm' : m ≠ .sh := fun z => hm (by rw [z]; rfl)
      split at h
      · rename_i hz
        obtain ⟨l, hl, ol, nl, _⟩ := e2.ow i m _ hg hm'
        rw [hx] at hl
        cases hl
        obtain ⟨us, hus, ru⟩ := ol
        obtain ⟨b, ws, rfl, hb, rw'⟩ := hd.top (O2 := All Ox env1 σ) e1 hr (Ex.fr Ex.rfl' (q := true)) (fun _ => rfl) fun a z => .inl (z.imp (so a) id)
        have l1 := ru.length
        have l2 := rw'.length
        have hz' := of_decide_eq_true hz
        refine .inr ⟨l, b, us, ws, rfl, rfl, hus, hb, by omega, ?_⟩
        have wl : WA env1 σ l := ⟨i, isOw_of hg hm', hx⟩
        have g : Goes1 H1 (upd H1 l (.lst (us ++ ws))) (All Ox env1 σ) (All Ox env1 σ) := ⟨fun a o h n => by rw [upd_ne (fun z => n (by rw [z]; exact .inr wl))]; exact h, fun _ z => .inl z⟩
        obtain ⟨e3, w3⟩ := e2.write (H' := upd H1 l (.lst (us ++ ws))) (d' := .lst (xs ++ ys)) hg hm' hx (fun b u nb h => by rw [upd_ne nb]; exact h) ⟨us ++ ws, upd_same, (ru.app rw').go g⟩
        have hσ : σ.set i (some (.ref l)) = σ := by
          apply List.ext_getElem?
          intro j
          by_cases ej : j = i
          · subst ej
            rw [List.getElem?_set_self (List.getElem?_eq_some_iff.mp hx).1, hx]
          · rw [List.getElem?_set_ne (Ne.symm ej)]
        show D.nx (σ.set i (some (.ref l))) _
        rw [hσ]
        refine h σ _ (f.transS (Wb := WA env1 σ) ⟨fun a o h n => by rw [upd_ne (fun z => n (by rw [z]; exact wl))]; exact h, fun a h => ?_, fun z => nomatch z⟩ fun a z => .inl (s a z)) (fun a z => .inl (s a ((w3 a).mp z))) e3
        by_cases z : a = l
        · rw [z, upd_same]; simp
        · rw [upd_ne z]; exact h
      · exact h.elim
  · exact h.elim
theorem rd_aug {i : Nat} (h : rdS μ C (.aug i e) D σ H) : tAug i (rdE μ C e) ipAdd D σ H := by
  obtain ⟨Ox, H0, M, env, ev, h⟩ := h
  simp only [evS] at h
  split at h
  · exact h.elim
  rename_i hn
  have hx : ∃ x, σ[i]? = some (some x) := by
    cases hg : getS env i with
    | none => rw [hg] at hn; exact absurd rfl hn
    | some p =>
      obtain ⟨m, d⟩ := p
      by_cases hm : m = .sh
      · subst hm
        obtain ⟨v, hv, _⟩ := ev.sh i d hg
        exact ⟨v, hv⟩
      · obtain ⟨a, ha, _⟩ := ev.ow i m d hg hm
        exact ⟨_, ha⟩
  obtain ⟨x, hx⟩ := hx
  exact ⟨x, hx, Ox, H0, M, env, ev, PostS.exE h fun r env1 v H1 hm f s rs h1 => aug_post ev f.lose s rs x hx h1⟩
/-- for -/
theorem rd_for {vs : List Nat} {tg : Tg} {k : ItK} {a b : E} {K : PySem.W.Frag} (h : rdS μ C (.for vs tg k a b s) D σ H) : tFor (rdI μ C k a b) (gOf K tg) (rdS μ C s) D σ H := by
  obtain ⟨Ox, H0, M, env, ev, h⟩ := h
  refine ⟨Ox, H0, M, env, ev, PostS.ex (by simp only [evS] at h; exact h) fun xs env1 J H1 hm f s1 rs h1 => ?_⟩
  obtain ⟨Ox1, so, sb, e1, wk⟩ := rs
  have h1' := (h1.rebase f.lose (sub_of s1)).lessO so
  refine ⟨fun i m σc Hc => ∃ ec, m = xs.length - i ∧ i ≤ xs.length ∧ EvR Ox1 H0 M ec σc Hc ∧ Fr (WA env1 σ) false H1 Hc ∧ SubS (WA env1 σ) H1 ec σc ∧ PostS μ Ox1 H0 M (WA env1 σ) H1 D (forL tg (evS C s) (xs.drop i) ec), ?_, ?_⟩
  · exact ⟨xs.length, env1, by omega, Nat.zero_le _, e1, Ex.fr Ex.rfl', fun a z => .inl z, by rw [List.drop_zero]; exact h1'⟩
  · rintro i m σc Hc ⟨ec, rfl, hi, e2, f2, s2, hP⟩
    have T : Turns J xs Hc (All Ox1 ec σc) := wk Hc _ f2.keep (fun x z => by
      rcases z with z | z
      · exact .inl (.inl z)
      · exact (s2 x z).imp .inr id) e2.domA
    by_cases hlt : i < xs.length
    · obtain ⟨go, yl⟩ := T.go i xs[i] (List.getElem?_eq_getElem hlt)
      refine .inr ⟨go, _, fun σ' H' hN => ⟨xs.length - (i + 1), by omega, hN⟩, fun x H' y => ?_⟩
      obtain ⟨x', rx⟩ := yl x H' y
      rw [List.drop_eq_getElem_cons hlt, forL] at hP
      have e3 := e2.ex x'
      cases hb : bindTg tg xs[i] ec with
      | none => rw [hb] at hP; exact hP.elim
      | some eb =>
        rw [hb] at hP
        simp only at hP
        refine g_ok e3 rx hb fun σ2 e4 w4 _ => ?_
        refine ⟨Ox1, H0, M, eb, e4, ?_⟩
        have f3 : Fr (WA env1 σ) false H1 H' := f2.transS (x'.fr (Wa := WA env1 σ) (q := false)) fun a z => .inl z
        have s3 : SubS (WA env1 σ) H1 eb σ2 := fun a z => s2 a (w4 a z)
        cases hm : evS C s eb with
        | nx env2 =>
          rw [hm] at hP
          refine fun σ' H'' f' s' e' => ⟨env2, rfl, hlt, e', f3.transS f' s3, fun a z => (s' a z).elim (s3 a) fun z => .inr (f3.none_back z), hP⟩
        | rt v env2 => rw [hm] at hP; exact (hP.rebase f3 s3)
        | exc x env2 => rw [hm] at hP; exact (hP.rebase f3 s3)
        | stuck => rw [hm] at hP; exact hP.elim
    · refine .inl ⟨T.stop i (by omega), ?_⟩
      rw [List.drop_of_length_le (by omega)] at hP
      exact hP σc Hc f2 s2 e2
/-- while -/
theorem rd_wh {vs : List Nat} {n : Nat} (h : rdS μ C (.wh vs n e s) D σ H) : tWhile (rdT μ C e) (rdS μ C s) D σ H := by
  obtain ⟨Ox, H0, M, env, ev, h⟩ := h
  simp only [evS] at h
  refine ⟨fun m σc Hc => ∃ ec, EvR Ox H0 M ec σc Hc ∧ PostS μ Ox H0 M (WA ec σc) Hc D (whL (evE C e) (evS C s) m ec), ⟨n, env, ev, h⟩, ?_⟩
  rintro m σc Hc ⟨ec, e1, hP⟩
  refine ⟨Ox, H0, M, ec, e1, ?_⟩
  cases m with
  | zero => exact hP.elim
  | succ m =>
    simp only [whL] at hP
    cases hm : evE C e ec with
    | stuck => rw [hm] at hP; exact hP.elim
    | exc x env1 => rw [hm] at hP; exact fun cls dx H' f s e x' => hP cls dx σc H' f e x'
    | ok r env1 =>
      rw [hm] at hP
      intro v H1 f1 s1 rs
      obtain ⟨md, d⟩ := r
      cases md with
      | sh =>
        cases d with
        | bl bb =>
          obtain ⟨hv, e2⟩ := bl_of rs
          refine ⟨bb, hv, ?_⟩
          cases bb with
          | false => exact iteF (hP σc H1 f1.lose (sub_of s1) e2)
          | true =>
            refine iteT ⟨fun σ' H' => ∃ ec, EvR Ox H0 M ec σ' H' ∧ PostS μ Ox H0 M (WA ec σ') H' D (whL (evE C e) (evS C s) m ec), fun σ' H' hN => ⟨m, by omega, hN⟩, Ox, H0, M, env1, e2, ?_⟩
            have hP2 := hP.rebase f1.lose (sub_of (H := Hc) s1)
            simp only at hP2
            cases hb : evS C s env1 with
            | nx env2 =>
              rw [hb] at hP2
              exact fun σ' H' f' s' e' => ⟨env2, e', hP2.rebase f' s'⟩
            | rt v env2 => rw [hb] at hP2; exact hP2
            | exc x env2 => rw [hb] at hP2; exact hP2
            | stuck => rw [hb] at hP2; exact hP2
        | _ => exact (hP : False).elim
      | _ => exact (hP : False).elim
/-- a, b, .. = e (a tuple, or a list) -/
theorem rd_asgT {is : List Nat} {K : PySem.W.Frag} (h : rdS μ C (.asgT is e) D σ H) : rdE μ C e σ H fun v H1 => (∃ a xs, v = .ref a ∧ (SqT K H1 a xs ∨ SqL K H1 a xs) ∧ xs.length = is.length ∧ gsOf is xs σ H1 D.nx) := by
  obtain ⟨Ox, H0, M, env, ev, h⟩ := h
  refine ⟨Ox, H0, M, env, ev, PostS.exE (by simp only [evS] at h; exact h) fun r env1 v H1 hm f s rs h1 => ?_⟩
  obtain ⟨Ox1, so, sb, e1, hd⟩ := rs.ev
  have e2 := e1.less so
  have hlen : ∀ (is : List Nat) (ds : List En.D) (env env' : Env), bindL is ds env = some env' → ds.length = is.length := by
    intro is
    induction is with
    | nil => intro ds env env' h; cases ds with
      | nil => rfl
      | cons => cases h
    | cons i is ih => intro ds env env' h; cases ds with
      | nil => cases h
      | cons d ds =>
        simp only [bindL] at h
        obtain ⟨_, _, h2⟩ := Option.bind_eq_some_iff.mp h
        simp only [List.length_cons, ih ds _ _ h2]
  have go : ∀ (ds : List En.D) (vs : List V), Rps H1 (All Ox env1 σ) vs ds → PostS μ Ox H0 M (WA env σ) H D (ofE (bindL is ds env1)) → vs.length = is.length ∧ gsOf is vs σ H1 D.nx := fun ds vs rr h1 => by
    cases hb : bindL is ds env1 with
    | none => rw [hb] at h1; exact (h1 : False).elim
    | some env2 =>
      rw [hb] at h1
      refine ⟨by rw [rr.length]; exact hlen _ _ _ _ hb, gs_ok e2 rr hb fun σ' e' w' _ => h1 σ' H1 f.lose (fun a z => .inl (s a (w' a z))) e'⟩
  have top : ∀ d, low r = some d → RpT H1 (All Ox env1 σ) v d := fun d hl => hd.top e1 (rdy_low hl) (Ex.fr Ex.rfl' (q := true)) (fun _ => rfl) fun a z => .inl (z.imp (so a) id)
  split at h1
  · rename_i ds hl
    obtain ⟨p, vs, rfl, n, hp, rr⟩ := (top _ hl).tup
    obtain ⟨hl', hg⟩ := go ds vs rr h1
    exact ⟨p, vs, rfl, .inl (.inl hp), hl', hg⟩
  · rename_i ds hl
    obtain ⟨p, vs, rfl, hp, rr⟩ := top _ hl
    obtain ⟨hl', hg⟩ := go ds vs rr h1
    exact ⟨p, vs, rfl, .inr (.inl hp), hl', hg⟩
  · exact h1.elim
end
end En
end

section
set_option Elab.async false
set_option linter.all false
set_option maxRecDepth 100000
set_option maxHeartbeats 4000000
namespace En
open PySem PySem.Spec L2
variable [Wd]
section
variable {μ : Mo} {C : Calls} {σ : L2.St} {H H1 H0 : Hp} {Ox M : OS} {env env1 : Env}
/-- an owned thing is written -/
theorem wrE {i : Nat} {m : Sm} {dd d' : D} {l : Addr} {o : HO} (e2 : EvR Ox H0 M env1 σ H1) (hg : getS env1 i = some (m, dd)) (hm : m ≠ .sh) (hx : σ[i]? = some (some (.ref l)))
    (ho : Goes1 H1 (upd H1 l o) (All Ox env1 σ) (All Ox env1 σ) → OwnT (upd H1 l o) (All Ox env1 σ) l d') :
    EvR Ox H0 M (setS env1 i (some (m, d'))) σ (upd H1 l o) ∧ (∀ b, WA (setS env1 i (some (m, d'))) σ b ↔ WA env1 σ b) ∧ Fr (WA env1 σ) false H1 (upd H1 l o) ∧ Goes1 H1 (upd H1 l o) (All Ox env1 σ) (All Ox (setS env1 i (some (m, d'))) σ) := by
  have wl : WA env1 σ l := ⟨i, isOw_of hg hm, hx⟩
  have g : Goes1 H1 (upd H1 l o) (All Ox env1 σ) (All Ox env1 σ) := ⟨fun a u h n => by rw [upd_ne (fun z => n (by rw [z]; exact .inr wl))]; exact h, fun _ z => .inl z⟩
  obtain ⟨e3, w3⟩ := e2.write (H' := upd H1 l o) (d' := d') hg hm hx (fun b u nb h => by rw [upd_ne nb]; exact h) (ho g)
  refine ⟨e3, w3, ⟨fun a u h n => by rw [upd_ne (fun z => n (by rw [z]; exact wl))]; exact h, fun a h => ?_, fun z => nomatch z⟩, ⟨g.1, fun a z => .inl (z.imp id (w3 a).mp)⟩⟩
  by_cases z : a = l
  · rw [z, upd_same]; simp
  · rw [upd_ne z]; exact h
theorem isLO_of {i : Nat} (h : isLO env i = true) : ∃ m ds, getS env i = some (m, .lst ds) ∧ m ≠ .sh := by
  unfold isLO at h
  split at h
  · rename_i ds hg; exact ⟨_, ds, hg, by decide⟩
  · rename_i ds hg; exact ⟨_, ds, hg, by decide⟩
  · cases h
theorem isDO_of {i : Nat} (h : isDO env i = true) : ∃ m ds, getS env i = some (m, .dic ds) ∧ m ≠ .sh ∧ strK ds = true := by
  unfold isDO at h
  split at h
  · rename_i ds hg; exact ⟨_, ds, hg, by decide, h⟩
  · rename_i ds hg; exact ⟨_, ds, hg, by decide, h⟩
  · cases h
/-- an owned dict with keys that are texts -/
theorem ownK {a : Addr} {O : OS} {ds : List (D × D)} (h : OwnT H O a (.dic ds)) (k : strK ds = true) : ∃ kv, H a = some (.dK kv) ∧ Rpk H O kv ds := by
  rcases h with h | ⟨xs, h, z, r⟩
  · exact h
  · cases r with
    | nil => exact absurd rfl z
    | cons => simp [strK] at k
/-- the value that is handed on, in the heap as it stands -/
theorem low_rp {Ox1 : OS} {r : Val} {v : V} {d : D} (ev : EvR Ox H0 M env σ H) (rs : Res Ox H0 M (WA env σ) σ H env1 r v H1) (so : ∀ a, Ox a → Ox1 a) (e1 : EvR Ox1 H0 M env1 σ H1) (hd : Hold (All Ox1 env1 σ) Ox1 σ H1 r v) (hl : low r = some d) : Rp H1 (All Ox env1 σ) v d :=
  hd.rp e1 hl (Ex.fr Ex.rfl' (q := true)) (fun a z => .inl (z.imp (so a) id)) fun hf p hp z => by
    rcases z with z | z
    · exact fr_nox ev rs p hf hp z
    · obtain ⟨m, dd⟩ := r
      simp only at hf
      subst hf
      obtain ⟨p', rfl, hx, _⟩ := hd
      cases hp
      exact (e1.owa z).1 hx
/-- dicts, one key put -/
theorem Rpk.any {O : OS} {kv : List (Key × V)} {ds : List (D × D)} (r : Rpk H O kv ds) (k : Key) : (ds.any fun p => p.1.eq (kD k)) = kv.any fun p => decide (p.1 = k) := by
  induction kv generalizing ds with
  | nil => cases r; rfl
  | cons p kv ih => cases r with
    | cons h r => rw [List.any_cons, List.any_cons, ih r, kD_eq]
theorem Rpk.map {O : OS} {kv : List (Key × V)} {ds : List (D × D)} (r : Rpk H O kv ds) (k : Key) {v : V} {d : D} (q : Rp H O v d) : Rpk H O (kv.map fun p => if p.1 = k then (p.1, v) else p) (ds.map fun p => if p.1.eq (kD k) then (p.1, d) else p) := by
  induction kv generalizing ds with
  | nil => cases r; exact .nil
  | cons p kv ih => cases r with
    | @cons k1 v1 _ d1 ds1 h r =>
      rw [List.map_cons, List.map_cons]
      simp only [kD_eq, decide_eq_true_eq]
      split
      · exact .cons q (ih r)
      · exact .cons h (ih r)
theorem Rpk.app {O : OS} : ∀ {xs ys : List (Key × V)} {ds es : List (D × D)}, Rpk H O xs ds → Rpk H O ys es → Rpk H O (xs ++ ys) (ds ++ es)
  | _, _, _, _, .nil, q => q
  | _, _, _, _, .cons h r, q => .cons h (Rpk.app r q)
theorem Rpk.put {O : OS} {kv : List (Key × V)} {ds : List (D × D)} (r : Rpk H O kv ds) (k : Key) {v : V} {d : D} (q : Rp H O v d) : Rpk H O (putK kv k v) (dput ds (kD k) d) := by
  unfold putK dput
  rw [r.any k]
  split
  · exact r.map k q
  · exact r.app (.cons q .nil)

/-- what is no tuple -/
def LDo (H : Hp) (a : Addr) : Prop := ∀ vs, ¬ Rd H a (.tup vs)
theorem owned_ld {a : Addr} (e : EvR Ox H0 M env σ H) (h : WA env σ a) : LDo H a := by
  obtain ⟨i, hi, hs⟩ := h
  obtain ⟨m, d, hg, hm⟩ := isOw_iff.mp hi
  obtain ⟨b, hb, ho, _⟩ := e.ow i m d hg hm
  rw [hs] at hb
  cases hb
  intro vs hr
  cases d with
  | lst ds => obtain ⟨us, h, _⟩ := ho; rcases hr with z | ⟨o, z⟩ <;> (rw [h] at z; cases z)
  | dic ds => rcases ho with ⟨us, h, _⟩ | ⟨us, h, _⟩ <;> rcases hr with z | ⟨o, z⟩ <;> (rw [h] at z; cases z)
  | _ => exact ho.elim
mutual
/-- pure data leans on tuples alone -/
theorem rp_pure {O O' : OS} : ∀ {v : V} {d : D}, d.pure = true → Rp H O v d → (∀ a, O' a → O a ∨ LDo H a) → Rp H O' v d
  | _, _, _, .non, _ => .non
  | _, _, _, .bl b, _ => .bl b
  | _, _, _, .int i, _ => .int i
  | _, _, _, .str x, _ => .str x
  | _, _, p, .tup (a := a) n h r, k => .tup (fun z => (k a z).elim n fun z => z _ h) h (rps_pure (by simpa [D.pure] using p) r k)
  | _, _, p, .lst _ _ _, _ => by simp [D.pure] at p
  | _, _, p, .dic _ _ _, _ => by simp [D.pure] at p
  | _, _, p, .dicN _ _ _ _, _ => by simp [D.pure] at p
theorem rps_pure {O O' : OS} : ∀ {v : List V} {d : List D}, D.pures d = true → Rps H O v d → (∀ a, O' a → O a ∨ LDo H a) → Rps H O' v d
  | _, _, _, .nil, _ => .nil
  | _, _, p, .cons h r, k => by
    simp only [D.pures, Bool.and_eq_true] at p
    exact .cons (rp_pure p.1 h k) (rps_pure p.2 r k)
end

/-! ### expressions -/
variable {Q : VK} {a b c e : E}
theorem rd_dic0 (h : rdE μ C .dic0 σ H Q) : tDNewK σ H Q := by
  obtain ⟨Ox, H0, M, env, ev, h⟩ := h
  simp only [evE] at h
  intro p hp
  refine h _ _ (Ex.fr (Ex.new hp)) (fun _ z => z) ⟨p, rfl, .inl hp, ev.back hp, ev.add hp (Ex.new hp) (by rw [upd_same]; simp), .inl ⟨[], upd_same, .nil⟩⟩
theorem rd_get (h : rdE μ C (.get a b c) σ H Q) : tDGet2 (rdE μ C a) (rdE μ C b) (rdE μ C c) σ H Q := by
  obtain ⟨Ox, H0, M, env, ev, h⟩ := h
  refine ⟨Ox, H0, M, env, ev, PostG.bind (by simp only [evE] at h; exact h) fun r env1 v H1 hm f s rs h1 => ?_⟩
  obtain ⟨Ox1, so, sb, e1, hd⟩ := rs.ev
  split at h1
  · rename_i kvs hr
    split at h1
    · exact h1.elim
    rename_i hn
    simp only [Bool.or_eq_true, Bool.not_eq_true', not_or, Bool.not_eq_false] at hn
    obtain ⟨p, kv, rfl, hp, rr⟩ := strs_of (hd.top (O2 := All Ox1 env1 σ) e1 hr (Ex.fr Ex.rfl' (q := true)) (fun _ => rfl) fun _ z => .inl z) hn.1
    refine ⟨p, rfl, .inl ⟨kv, hp⟩, ?_⟩
    have hq : (E.get a b c).quiet = true → a.quiet = true ∧ (b.quiet && c.quiet) = true := by simp [E.quiet]; intro x y z; exact ⟨x, y, z⟩
    refine ⟨Ox1, H0, M, env1, e1, PostG.bind (PostE.rebase (qb := b.quiet && c.quiet) h1 f s so hq) fun r2 env2 w H2 hm2 f2 s2 rs2 h2 => ?_⟩
    obtain ⟨Ox2, so2, sb2, e2, hd2⟩ := rs2.ev
    refine ⟨Ox2, H0, M, env2, e2, PostG.bind (PostE.rebase (qb := c.quiet) h2 f2 s2 so2 (by simp)) fun r3 env3 x H3 hm3 f3 s3 rs3 h3 => ?_⟩
    obtain ⟨Ox3, so3, sb3, e3, hd3⟩ := rs3.ev
    split at h3
    · rename_i y z hl
      have f23 : Fr (WA env1 σ) (b.quiet && c.quiet) H1 H3 := f2.trans f3 s2 (by simp)
      have hqq : inp r = true → (b.quiet && c.quiet) = true := fun hb => by
        cases hbq : (b.quiet && c.quiet) with
        | true => rfl
        | false => exact absurd (by rw [hb, hbq]; rfl) hn.2
      have hy : w = .str y := hd2.ofStr
      subst hy
      have e3' := e3.less so3
      have so12 : ∀ a, Ox1 a → Ox2 a := so2
      obtain ⟨p', kv', ep, hp', rr'⟩ := strs_of (hd.top (O2 := All Ox2 env3 σ) e1 hr f23 hqq fun a z => by
        rcases z with z | z
        · rcases sb2 a z with z | z | z
          · exact .inl (.inl z)
          · exact .inr z
          · exact .inl (.inr z)
        · exact .inl (.inr (s2 a (s3 a z)))) hn.1
      cases ep
      have rx : Rp H3 (All Ox2 env3 σ) x z := low_rp e2 rs3 so3 e3 hd3 hl
      obtain ⟨o, g, hs, ho⟩ := dget_at hp' rr' y
      refine ⟨o, g, ?_⟩
      have h4 : ∀ w' H', Ex H3 H' → Rp H' (All Ox2 env3 σ) w' ((dget kvs (.str y)).getD z) → Q w' H' := fun w' H' x' rw' =>
        h3 w' H' (f3.trans (q := c.quiet) (x'.fr (Wa := WA env2 σ) (q := true)) (fun _ z => z) fun z => ⟨z, rfl⟩) s3 ⟨e3'.ex x', rw'⟩
      cases hg : dget kvs (.str y) with
      | none =>
        have : o = none := by
          cases o with
          | none => rfl
          | some _ => rw [hg] at hs; cases hs
        subst this
        rw [hg] at h4
        exact h4 _ _ Ex.rfl' rx
      | some d =>
        obtain ⟨v', rfl, rv⟩ := ho d hg
        rw [hg] at h4
        exact h4 _ _ Ex.rfl' rv
    · exact h3.elim
  · exact h1.elim
theorem rd_lend {i : Nat} (h : rdE μ C (.lend i a) σ H Q) : rdE μ C a σ H Q := by
  obtain ⟨Ox, H0, M, env, ev, h⟩ := h
  simp only [evE] at h
  split at h
  · rename_i m d hg
    split at h
    · exact h.elim
    rename_i hn
    simp only [Bool.or_eq_true, not_or, beq_iff_eq, Bool.not_eq_true', Bool.not_eq_false] at hn
    obtain ⟨⟨⟨hm, hq⟩, hi⟩, ht⟩ := hn
    obtain ⟨e', x, sx, rx⟩ := ev.freeze hg hm
    have hw := WA_sh (σ := σ) (d := d) (getS_lt hg)
    refine ⟨Ox, H0, M, _, e', ?_⟩
    cases hc : evE C a (setS env i (some (.sh, d))) with
    | stuck => rw [hc] at h; exact h.elim
    | exc z ez =>
      rw [hc] at h
      exact fun cls dx H' f s e x => h cls dx H' ⟨fun b o hb nb => f.keep b o hb fun z => nb (hw b z), f.dom, fun z => nomatch z⟩ (fun b z => hw b (s b z)) e x
    | ok r env1 =>
      rw [hc] at h
      intro v H' f s rs
      obtain ⟨md, dd⟩ := r
      cases md with
      | sh =>
        simp only [R.bind_ok] at h
        split at h
        · rename_i hp
          have x' : Ex H H' := f.ex hq
          have hv : ∀ i ∈ touchE a, isOw env i = false := fun j hj => by
            cases hc : isOw env j with
            | false => rfl
            | true => exact absurd (List.any_eq_true.mpr ⟨j, hj, hc⟩) ht
          obtain ⟨e2, w2⟩ := (ev.ex x').wipes hv
          refine h v H' ⟨fun b o hb _ => x' b o hb, f.dom, fun _ => x'⟩ (fun b z => (w2 b).mp z) ⟨e2, ?_⟩
          have e3 := ev.ex x'
          exact rp_pure hp rs.2 fun b z => by
            rcases z with z | z
            · exact .inl (.inl z)
            · exact .inr (owned_ld e3 ((w2 b).mp z))
        · exact h.elim
      | _ => exact (h : False).elim
  · exact h.elim
end
end En
end

section
set_option Elab.async false
set_option linter.all false
set_option maxRecDepth 100000
set_option maxHeartbeats 4000000
namespace En
open PySem PySem.Spec L2
variable [Wd]
section
variable {μ : Mo} {C : Calls} {σ : L2.St} {H H1 H0 : Hp} {Ox M : OS} {env env1 : Env} {Q : VK} {a b c e : E}
theorem rd_pop {i : Nat} {K : PySem.W.Frag} (h : rdE μ C (.pop i) σ H Q) : tBM0 K "list" rPop (tVar i) σ H Q := by
  obtain ⟨Ox, H0, M, env, ev, h⟩ := h
  simp only [evE] at h
  split at h
  · rename_i m ds hg
    split at h
    · exact h.elim
    rename_i hm
    have hm' : m ≠ .sh := fun z => hm (by rw [z]; rfl)
    split at h
    · rename_i d hd
      obtain ⟨l, sl, ⟨us, hus, ru⟩, nl, _⟩ := ev.ow i m _ hg hm'
      have hl := ru.length
      have hd' : ds[ds.length - 1]? = some d := by rw [← List.getLast?_eq_getElem?]; exact hd
      obtain ⟨v, hv, rv⟩ := ru.get hd'
      refine ⟨.ref l, sl, .inl ⟨rfl, us, .inl (.inl hus)⟩, l, us, v, rfl, rfl, hus, by rw [hl]; exact hv, ?_⟩
      obtain ⟨e3, w3, f3, g3⟩ := wrE (o := .lst us.dropLast) (d' := .lst ds.dropLast) ev hg hm' sl fun g => ⟨us.dropLast, upd_same, ru.dropLast.go g⟩
      exact h v _ f3 (fun b z => (w3 b).mp z) ⟨e3, rv.go g3⟩
    · exact h.elim
  · exact h.elim
theorem rd_popAt {i : Nat} {K : PySem.W.Frag} (h : rdE μ C (.popAt i a) σ H Q) : tBM K "list" rPopAt (tVar i) (tCons (rdE μ C a) tNil) σ H Q := by
  obtain ⟨Ox, H0, M, env, ev, h⟩ := h
  simp only [evE] at h
  split at h
  · exact h.elim
  rename_i hlo
  obtain ⟨m0, ds0, hg0, hm0⟩ := isLO_of (by simpa using hlo)
  obtain ⟨l, sl, ⟨us0, hus0, _⟩, _⟩ := ev.ow i m0 _ hg0 hm0
  refine ⟨.ref l, sl, .inl ⟨rfl, us0, .inl (.inl hus0)⟩, Ox, H0, M, env, ev, PostG.bind h fun r env1 v H1 hmm f s rs h1 => ?_⟩
  obtain ⟨Ox1, so, sb, e1, hd⟩ := rs.ev
  have e2 := e1.less so
  show rPopAt (.ref l) [v] H1 Q
  split at h1
  · rename_i j m ds hg
    split at h1
    · exact h1.elim
    rename_i hm
    simp only [Bool.or_eq_true, not_or, beq_iff_eq, Bool.not_eq_true', Bool.not_eq_false] at hm
    have hm' : m ≠ .sh := hm.1
    have hz := of_decide_eq_true hm.2
    rw [sizeLine_eq] at hz
    split at h1
    · rename_i n hn
      split at h1
      · rename_i d hd1
        obtain ⟨l', sl', ⟨us, hus, ru⟩, nl, _⟩ := e2.ow i m _ hg hm'
        rw [sl] at sl'
        cases sl'
        have hv : v = .int j := rs.2.ofInt
        subst hv
        have hl := ru.length
        obtain ⟨q1, q2, q3, q4⟩ := ixN_seq hn
        obtain ⟨w, hw, rw'⟩ := ru.get hd1
        refine ⟨l, us, j, n, w, rfl, rfl, hus, ?_, ?_, by rw [hl]; exact q1, hw, ?_⟩
        · omega
        · omega
        obtain ⟨e3, w3, f3, g3⟩ := wrE (o := .lst (us.eraseIdx n)) (d' := .lst (ds.eraseIdx n)) e2 hg hm' sl fun g => ⟨us.eraseIdx n, upd_same, (ru.erase n).go g⟩
        exact h1 w _ ((f.lose.trans (q := false) f3 s fun z => nomatch z)) (fun b z => s b ((w3 b).mp z)) ⟨e3, rw'.go g3⟩
      · exact h1.elim
    · exact h1.elim
  · exact h1.elim
theorem rd_setdef {i : Nat} (h : rdE μ C (.setdef i a b) σ H Q) : tDSetd (tVar i) (rdE μ C a) (rdE μ C b) σ H Q := by
  obtain ⟨Ox, H0, M, env, ev, h⟩ := h
  simp only [evE] at h
  split at h
  · exact h.elim
  rename_i hlo
  obtain ⟨m0, ds0, hg0, hm0, hk0⟩ := isDO_of (by simpa using hlo)
  obtain ⟨l, sl, ol, _⟩ := ev.ow i m0 _ hg0 hm0
  obtain ⟨kv0, hkv0, _⟩ := ownK ol hk0
  refine ⟨.ref l, sl, l, rfl, .inl ⟨kv0, .inl hkv0⟩, Ox, H0, M, env, ev, PostG.bind h fun r env1 v H1 hmm f s rs h1 => ?_⟩
  obtain ⟨Ox1, so, sb, e1, hd⟩ := rs.ev
  refine ⟨Ox1, H0, M, env1, e1, PostG.bind (PostE.rebase (qb := false) h1 f s so (fun z => nomatch z)) fun r2 env2 w H2 hm2 f2 s2 rs2 h2 => ?_⟩
  obtain ⟨Ox2, so2, sb2, e2, hd2⟩ := rs2.ev
  have e2' := e2.less so2
  split at h2
  · rename_i y d m kvs hl hg
    split at h2
    · exact h2.elim
    rename_i hm
    simp only [Bool.or_eq_true, not_or, beq_iff_eq, Bool.not_eq_true', Bool.not_eq_false] at hm
    have hz := of_decide_eq_true hm.2
    obtain ⟨l', sl', ol', nl, _⟩ := e2'.ow i m _ hg hm.1.1
    rw [sl] at sl'
    cases sl'
    obtain ⟨kv, hkv, rk⟩ := ownK ol' hm.1.2
    have hv : v = .str y := hd.ofStr
    subst hv
    have rw2 : Rp H2 (All Ox1 env2 σ) w d := low_rp e1 rs2 so2 e2 hd2 hl
    have hle := rk.length
    rcases rk.get (.inr y) with ⟨g1, g2⟩ | ⟨d1, v1, g1, g2, rv1⟩
    · have g1' : dget kvs (.str y) = none := g1
      rw [g1'] at h2
      refine ⟨kv, .inr y, hkv, rfl, by omega, fun v' hv' => (by rw [g2] at hv'; cases hv'), fun _ => ?_⟩
      obtain ⟨e3, w3, f3, g3⟩ := wrE (o := .dK (putK kv (.inr y) w)) (d' := .dic (dput kvs (.str y) d)) e2' hg hm.1.1 sl fun g => .inl ⟨_, upd_same, (rk.put (.inr y) rw2).go g⟩
      exact h2 w _ (f2.lose.trans (q := false) f3 s2 fun z => nomatch z) (fun b z => s2 b ((w3 b).mp z)) ⟨e3, rw2.go g3⟩
    · have g1' : dget kvs (.str y) = some d1 := g1
      rw [g1'] at h2
      refine ⟨kv, .inr y, hkv, rfl, by omega, fun v' hv' => ?_, fun hn => (by rw [g2] at hn; cases hn)⟩
      rw [g2] at hv'
      cases hv'
      exact h2 _ _ f2.lose s2 ⟨e2', rv1⟩
  · exact h2.elim
/-- others ahead, the beginning kept in sight -/
theorem PostG.from {α α' β β' : Type} {q qb : Bool} {Wa : OS} {Ox1 : OS} {Rs : Env → α → β → Hp → Prop} {Rs1 : Env → α' → β' → Hp → Prop} {Q : β → Hp → Prop} {Q' : β' → Hp → Prop} {m : R α'} {k : α' → Env → R α}
    (h : PostG μ Ox H0 M Wa q σ H Rs Q (m.bind k)) (f : Fr Wa false H H1) (s : ∀ a, WA env1 σ a → Wa a) (so : ∀ a, Ox a → Ox1 a)
    (hk : ∀ r env2 v H2, m = .ok r env2 → Fr (WA env1 σ) qb H1 H2 → (∀ a, WA env2 σ a → WA env1 σ a) → Rs1 env2 r v H2 → PostG μ Ox H0 M Wa q σ H Rs Q (k r env2) → Q' v H2) : PostG μ Ox1 H0 M (WA env1 σ) qb σ H1 Rs1 Q' m := by
  cases m with
  | ok r env2 => exact fun v H2 f2 s2 r2 => hk r env2 v H2 rfl f2 s2 r2 h
  | exc x env2 => exact fun cls dx H' f' s' e' x' => h cls dx H' (f.trans f' s fun z => nomatch z) (fun a z => s a (s' a z)) (e'.less so) (μ.mono _ _ _ _ _ _ (fun a z => z.imp (so a) id) x')
  | stuck => exact h.elim
/-- the end of a display -/
theorem disp_end {q : Bool} {Ox1 : OS} {p : Addr} {kv : List (Key × V)} {ds : List (D × D)} {env2 : Env} {H2 : Hp} (ev : EvR Ox H0 M env σ H) (hp : H p = none) (hx : Ox1 p) (so : ∀ a, Ox a → Ox1 a) (e2 : EvR Ox1 H0 M env2 σ H2) (f : Fr (WA env σ) q H H2) (s : ∀ a, WA env2 σ a → WA env σ a)
    (rk : Rpk H2 (All Ox1 env2 σ) kv ds) (h : PostE μ Ox H0 M (WA env σ) q σ H Q (.ok (.fr, .dic ds) env2)) : Q (.ref p) (upd H2 p (.dK kv)) := by
  have h0p := ev.back hp
  obtain ⟨e4, g4⟩ := e2.away (o := .dK kv) hx (.inl h0p)
  have sp : ∀ a, plus Ox p a → Ox1 a := fun a z => z.elim (so a) fun z => by rw [z]; exact hx
  have ne : ∀ a o, H a = some o → a ≠ p := fun a o h z => by rw [z, hp] at h; cases h
  refine h _ _ ⟨fun a o ha n => by rw [upd_ne (ne a o ha)]; exact f.keep a o ha n, fun a ha => ?_, fun hq a o ha => by rw [upd_ne (ne a o ha)]; exact f.ex hq a o ha⟩ s ⟨p, rfl, .inl hp, h0p, e4.less sp, .inl ⟨kv, upd_same, (rk.go g4).go (Goes1.less fun a z => z.imp (sp a) id)⟩⟩
  by_cases z : a = p
  · rw [z, upd_same]; simp
  · rw [upd_ne z]; exact f.dom a ha
theorem rd_dic1 (h : rdE μ C (.dic1 a b) σ H Q) : tDisp [(rdE μ C a, rdE μ C b)] σ H Q := by
  obtain ⟨Ox, H0, M, env, ev, h⟩ := h
  intro p hp
  simp only [evE] at h
  have e0 := ev.add hp (Ex.new (o := .dK []) hp) (by rw [upd_same]; simp)
  have f0 : Fr (WA env σ) true H (upd H p (.dK [])) := (Ex.new hp).fr
  refine ⟨plus Ox p, H0, M, env, e0, PostG.from h f0.lose (fun _ z => z) (fun _ z => .inl z) fun r env1 v H1 hz1 f s rs h1 => ?_⟩
  have rs' : Res (plus Ox p) H0 M (WA env σ) σ (upd H p (.dK [])) env1 r v H1 := rs
  obtain ⟨Ox1, so, sb, e1, hd⟩ := rs'.ev
  have f01 : Fr (WA env σ) a.quiet H H1 := f0.trans f (fun _ z => z) fun z => ⟨rfl, z⟩
  refine ⟨Ox1, H0, M, env1, e1, PostG.from h1 f01.lose s (fun _ z => so _ (.inl z)) fun r2 env2 w H2 hz2 f2 s2 rs2 h2 => ?_⟩
  have rs2' : Res Ox1 H0 M (WA env1 σ) σ H1 env2 r2 w H2 := rs2
  obtain ⟨Ox2, so2, sb2, e2, hd2⟩ := rs2'.ev
  have hpx : ∀ x, WA env1 σ x → x ≠ p := fun x z e => by rw [e] at z; exact (e1.owa z).1 (so p (.inr rfl))
  have hp1 : H1 p = some (.dK []) := f.keep p _ upd_same fun z => (e0.owa z).1 (.inr rfl)
  have hp2 : H2 p = some (.dK []) := f2.keep p _ hp1 fun z => hpx p z rfl
  show H2 p = some (.dK []) ∧ _
  split at h2
  · rename_i x d hl
    have hv : v = .str x := hd.ofStr
    subst hv
    have rw2 := low_rp e1 rs2' so2 e2 hd2 hl
    refine ⟨hp2, [(.inr x, w)], rfl, by simp, ?_⟩
    have f02 : Fr (WA env σ) (E.dic1 a b).quiet H H2 := f01.trans f2 s (by simp [E.quiet])
    exact disp_end (kv := mergeK [] [(.inr x, w)]) ev hp (so p (.inr rfl)) (fun z hz => so z (.inl hz)) (e2.less so2) f02 (fun z hz => s z (s2 z hz)) (.cons (k := .inr x) rw2 .nil) h2
  · exact h2.elim
theorem rd_dic2 (h : rdE μ C (.dic2 a b c e) σ H Q) : tDisp [(rdE μ C a, rdE μ C b), (rdE μ C c, rdE μ C e)] σ H Q := by
  obtain ⟨Ox, H0, M, env, ev, h⟩ := h
  intro p hp
  simp only [evE] at h
  have e0 := ev.add hp (Ex.new (o := .dK []) hp) (by rw [upd_same]; simp)
  have f0 : Fr (WA env σ) true H (upd H p (.dK [])) := (Ex.new hp).fr
  refine ⟨plus Ox p, H0, M, env, e0, PostG.from h f0.lose (fun _ z => z) (fun _ z => .inl z) fun r env1 v H1 hz1 f s rs h1 => ?_⟩
  have rs' : Res (plus Ox p) H0 M (WA env σ) σ (upd H p (.dK [])) env1 r v H1 := rs
  obtain ⟨Ox1, so, sb, e1, hd⟩ := rs'.ev
  have f01 : Fr (WA env σ) a.quiet H H1 := f0.trans f (fun _ z => z) fun z => ⟨rfl, z⟩
  refine ⟨Ox1, H0, M, env1, e1, PostG.from h1 f01.lose s (fun _ z => so _ (.inl z)) fun r2 env2 w H2 hz2 f2 s2 rs2 h2 => ?_⟩
  have rs2' : Res Ox1 H0 M (WA env1 σ) σ H1 env2 r2 w H2 := rs2
  obtain ⟨Ox2, so2, sb2, e2, hd2⟩ := rs2'.ev
  have f02 : Fr (WA env σ) (a.quiet && b.quiet) H H2 := f01.trans f2 s (by simp)
  have s02 : ∀ z, WA env2 σ z → WA env σ z := fun z hz => s z (s2 z hz)
  refine ⟨Ox2, H0, M, env2, e2, PostG.from h2 f02.lose s02 (fun _ z => so2 _ (so _ (.inl z))) fun r3 env3 x H3 hz3 f3 s3 rs3 h3 => ?_⟩
  have rs3' : Res Ox2 H0 M (WA env2 σ) σ H2 env3 r3 x H3 := rs3
  obtain ⟨Ox3, so3, sb3, e3, hd3⟩ := rs3'.ev
  have f03 : Fr (WA env σ) (a.quiet && b.quiet && c.quiet) H H3 := f02.trans f3 s02 (by simp)
  have s03 : ∀ z, WA env3 σ z → WA env σ z := fun z hz => s02 z (s3 z hz)
  refine ⟨Ox3, H0, M, env3, e3, PostG.from h3 f03.lose s03 (fun _ z => so3 _ (so2 _ (so _ (.inl z)))) fun r4 env4 y H4 hz4 f4 s4 rs4 h4 => ?_⟩
  have rs4' : Res Ox3 H0 M (WA env3 σ) σ H3 env4 r4 y H4 := rs4
  obtain ⟨Ox4, so4, sb4, e4, hd4⟩ := rs4'.ev
  have px1 := so p (.inr rfl)
  have px2 := so2 p px1
  have px3 := so3 p px2
  have hp1 : H1 p = some (.dK []) := f.keep p _ upd_same fun z => (e0.owa z).1 (.inr rfl)
  have hp2 : H2 p = some (.dK []) := f2.keep p _ hp1 fun z => (e1.owa z).1 px1
  have hp3 : H3 p = some (.dK []) := f3.keep p _ hp2 fun z => (e2.owa z).1 px2
  have hp4 : H4 p = some (.dK []) := f4.keep p _ hp3 fun z => (e3.owa z).1 px3
  show H4 p = some (.dK []) ∧ _
  split at h4
  · rename_i k1 d1 k2 d2 hl1 hl2
    have hv : v = .str k1 := hd.ofStr
    subst hv
    have hv3 : x = .str k2 := hd3.ofStr
    subst hv3
    have rw2 := low_rp e1 rs2' so2 e2 hd2 hl1
    have rw4 := low_rp e3 rs4' so4 e4 hd4 hl2
    -- the first value, kept
    have g23 : Goes1 H2 H3 (All Ox1 env2 σ) (All Ox1 env3 σ) := ⟨fun a o h n => f3.keep a o h fun z => n (.inr z), fun a z => .inl (z.imp id (s3 a))⟩
    have g34 : Goes1 H3 H4 (All Ox1 env3 σ) (All Ox1 env4 σ) := ⟨fun a o h n => f4.keep a o h fun z => n (.inr z), fun a z => .inl (z.imp id (s4 a))⟩
    have rw2' : Rp H4 (All Ox1 env4 σ) w d1 := (rw2.go g23).go g34
    have rw4' : Rp H4 (All Ox1 env4 σ) y d2 := rw4.go (Goes1.less fun a z => z.imp (fun z => so3 a (so2 a z)) id)
    refine ⟨hp4, [(.inr k1, w), (.inr k2, y)], rfl, by simp, ?_⟩
    have f04 : Fr (WA env σ) (E.dic2 a b c e).quiet H H4 := f03.trans f4 s03 (by simp only [E.quiet, Bool.and_eq_true]; exact fun z => z)
    refine disp_end (kv := mergeK [] [(.inr k1, w), (.inr k2, y)]) ev hp px1 (fun z hz => so z (.inl hz)) (((e4.less so4).less so3).less so2) f04 (fun z hz => s03 z (s4 z hz)) ?_ h4
    exact Rpk.put (.cons (k := .inr k1) rw2' .nil) (.inr k2) rw4'
  · exact h4.elim
end
end En
end

section
set_option Elab.async false
set_option linter.all false
set_option maxRecDepth 100000
set_option maxHeartbeats 4000000
namespace En
open PySem PySem.Spec L2
variable [Wd]
section
variable {μ : Mo} {C : Calls} {D : Ends} {σ : L2.St} {H H1 H0 : Hp} {Ox M : OS} {env env1 : Env} {e k : E} {s t : S}
/-- an owned thing is written by a statement -/
theorem wrS {i : Nat} {m : Sm} {dd d' : En.D} {l : Addr} {o : HO} (e2 : EvR Ox H0 M env1 σ H1) (f : Fr (WA env σ) false H H1) (s : ∀ a, WA env1 σ a → WA env σ a) (hg : getS env1 i = some (m, dd)) (hm : m ≠ .sh) (hx : σ[i]? = some (some (.ref l)))
    (ho : Goes1 H1 (upd H1 l o) (All Ox env1 σ) (All Ox env1 σ) → OwnT (upd H1 l o) (All Ox env1 σ) l d') (h : PostS μ Ox H0 M (WA env σ) H D (.nx (setS env1 i (some (m, d'))))) : D.nx σ (upd H1 l o) := by
  obtain ⟨e3, w3, f3, g3⟩ := wrE e2 hg hm hx ho
  exact h σ _ (f.transS f3 fun a z => .inl (s a z)) (fun a z => .inl (s a ((w3 a).mp z))) e3
/-- name.append(e) -/
theorem rd_app {i : Nat} {K : PySem.W.Frag} (h : rdS μ C (.app i e) D σ H) : tDrop (tBM K "list" rAppend (tVar i) (tCons (rdE μ C e) tNil)) D σ H := by
  obtain ⟨Ox, H0, M, env, ev, h⟩ := h
  simp only [evS] at h
  split at h
  · exact h.elim
  rename_i hlo
  obtain ⟨m, ds, hg, hm⟩ := isLO_of (by simpa using hlo)
  obtain ⟨a, sa, ⟨us0, hus0, _⟩, _⟩ := ev.ow i m _ hg hm
  refine ⟨.ref a, sa, .inl ⟨rfl, us0, .inl (.inl hus0)⟩, Ox, H0, M, env, ev, PostS.exE h fun r env1 v H1 hmm f s rs h1 => ?_⟩
  obtain ⟨Ox1, so, sb, e1, hd⟩ := rs.ev
  have e2 := e1.less so
  show rAppend (.ref a) [v] H1 fun _ H3 => D.nx σ H3
  split at h1
  · rename_i d m1 ds1 hl hg1
    split at h1
    · exact h1.elim
    rename_i hm1
    have hm1' : m1 ≠ .sh := fun z => hm1 (by rw [z]; rfl)
    split at h1
    · rename_i hz
      obtain ⟨l, hl1, ⟨us, hus, ru⟩, nl, _⟩ := e2.ow i m1 _ hg1 hm1'
      rw [sa] at hl1
      cases hl1
      have rv := low_rp ev rs so e1 hd hl
      have hz' := of_decide_eq_true hz
      have l1 := ru.length
      exact ⟨a, us, v, rfl, rfl, hus, by omega, wrS (d' := .lst (ds1 ++ [d])) e2 f.lose s hg1 hm1' sa (fun g => ⟨us ++ [v], upd_same, (ru.app (.cons rv .nil)).go g⟩) h1⟩
    · exact h1.elim
  · exact h1.elim
/-- name.clear() -/
theorem rd_clear {i : Nat} {K : PySem.W.Frag} (h : rdS μ C (.clear i) D σ H) : tDrop (tBM0 K "list" rClear (tVar i)) D σ H := by
  obtain ⟨Ox, H0, M, env, ev, h⟩ := h
  simp only [evS] at h
  split at h
  · rename_i m ds hg
    split at h
    · exact h.elim
    · rename_i hm
      have hm' : m ≠ .sh := fun z => hm (by rw [z]; rfl)
      obtain ⟨a, sa, ⟨us, hus, ru⟩, _⟩ := ev.ow i m _ hg hm'
      refine ⟨.ref a, sa, .inl ⟨rfl, us, .inl (.inl hus)⟩, a, us, rfl, rfl, hus, ?_⟩
      exact wrS (d' := .lst []) ev (Ex.fr Ex.rfl') (fun _ z => z) hg hm' sa (fun g => ⟨[], upd_same, .nil⟩) h
  · exact h.elim
/-- name[k] = e -/
def rSetN : V → V → V → Hp → (Hp → Prop) → Prop := fun o i v H Q => ∃ a b O ds ks t, o = .ref a ∧ i = .ref b ∧ v = .bl t ∧ OwnT H O a (.dic ds) ∧ keyOk (.tup ks) = true ∧ tupK ds = true ∧ ds.length < sizeLine ∧ Rp H O (.ref b) (.tup ks) ∧
  ∀ xs, xs ≠ [] → Rpn H O xs (dput ds (.tup ks) (.bl t)) → Q (upd H a (nO a xs))
def rSetA : V → V → V → Hp → (Hp → Prop) → Prop := fun o i v H Q => rSetL o i v H Q ∨ rSetD o i v H Q ∨ rSetN o i v H Q
theorem set_nest {X : Cx} (hu : X.A.units + 200 < cLine) (hw : X.w = Wd.wd) : PSet X rSetN := by
  intro pins s σ H o i v ov iv u Q I ro ri rv h
  obtain ⟨a, b, O, ds, ks, t, rfl, rfl, rfl, ow, hk, ht, hz, hb, q⟩ := h
  cases ro
  cases ri
  cases rv
  have mu : Mut (H a) := by rcases ow with ⟨kv, h, _⟩ | ⟨kv, h, _⟩ <;> (rw [h]; trivial)
  obtain ⟨a', xs, ea, h1, h2, h3, rr⟩ := nest_of hw I ow.top (ks := ks) ht
  cases ea
  have hl := rr.length
  refine wpAny_setItem_heap (knd := nestedKind X.prog X.w) (hsz := h2) (by show X.A.units + 1 + 8 < cLine; omega) (key_is I hb hk) h3 fun h' dd hs => ?_
  obtain ⟨q1, es, ep, hq, h4, h5, h6, _, h7⟩ := dd
  have rr' := rr.put hk hb t
  have hne : storedH xs (nk (.tup ks)) b (.bool t) ≠ [] := fun z => by
    unfold storedH at z
    split at z
    · rename_i hsome
      cases xs with
      | nil => cases hsome
      | cons => simp at z
    · simp at z
  have hlen : (storedH xs (nk (.tup ks)) b (.bool t)).length ≤ sizeLine := by
    unfold storedH
    split
    · rw [List.length_map]; exact h2
    · rw [List.length_append]; simp; omega
  have he : (storedH xs (nk (.tup ks)) b (.bool t)).map (entryOfKey (nestedKind X.prog X.w)) = (storedH xs (nk (.tup ks)) b (.bool t)).map entN := by
    rw [show (entN : NestedKey × Addr × Value → DictEntry) = entryOfKey (nestedKind X.prog X.w) from funext fun x => by unfold entN entryOfKey; rw [← hw]; rfl]
  refine ⟨_, d_write I mu hs ⟨q1, hq⟩ ?_, q _ hne rr'⟩
  exact ⟨⟨h1, hlen, q1, es, ep, hq, h4, h5, by rw [h6, he], h7⟩, ⟨q1, hq⟩, fun g1 g2 z k => by
    obtain ⟨z1, z2, o1, es1, ep1, y1, y2, y3, y4, y5⟩ := z
    exact ⟨z1, z2, o1, es1, ep1, k _ y1, y2, y3, y4, y5⟩⟩
theorem set_all {X : Cx} (hu : X.A.units + 200 < cLine) (hw : X.w = Wd.wd) : PSet X rSetA := by
  intro pins s σ H o i v ov iv u Q I ro ri rv h
  rcases h with h | h | h
  · exact set_list pins s σ H o i v ov iv u Q I ro ri rv h
  · exact set_dict (by omega) pins s σ H o i v ov iv u Q I ro ri rv h
  · exact set_nest hu hw pins s σ H o i v ov iv u Q I ro ri rv h
theorem rd_setI {i : Nat} (h : rdS μ C (.setI i k e) D σ H) : tAsg (rdE μ C e) (gSub (tVar i) (rdE μ C k) rSetA) D σ H := by
  obtain ⟨Ox, H0, M, env, ev, h⟩ := h
  refine ⟨Ox, H0, M, env, ev, PostS.exE (by simp only [evS] at h; exact h) fun r env1 v H1 hz1 f s rs h1 => ?_⟩
  obtain ⟨Ox1, so, sb, e1, hd⟩ := rs.ev
  split at h1
  · exact h1.elim
  rename_i hi
  obtain ⟨m, dd, hg, hm⟩ := isOw_iff.mp (show isOw env1 i = true by simpa using hi)
  have e1' := e1.less so
  obtain ⟨a, sa, _⟩ := e1'.ow i m _ hg hm
  refine ⟨.ref a, sa, Ox, H0, M, env1, e1', PostS.exE (h1.rebase f.lose (sub_of s)) fun r2 env2 w H2 hz2 f2 s2 rs2 h2 => ?_⟩
  obtain ⟨Ox2, so2, sb2, e2, hd2⟩ := rs2.ev
  have e3 := e2.less so2
  have val : ∀ d, low r = some d → Rp H2 (All Ox env2 σ) v d := fun d hl => (low_rp ev rs so e1 hd hl).go ⟨fun a o h n => f2.keep a o h fun z => n (.inr z), fun a z => .inl (z.imp id (s2 a))⟩
  split at h2
  · rename_i d j m2 ds hl hg2
    split at h2
    · exact h2.elim
    rename_i hm2
    have hm2' : m2 ≠ .sh := fun z => hm2 (by rw [z]; rfl)
    split at h2
    · rename_i n hn
      obtain ⟨l, hl1, ⟨us, hus, ru⟩, _⟩ := e3.ow i m2 _ hg2 hm2'
      rw [sa] at hl1
      cases hl1
      have hw : w = .int j := hd2.ofInt
      subst hw
      exact .inl ⟨a, us, j, n, rfl, rfl, hus, by rw [ru.length]; exact hn, wrS (d' := .lst (ds.set n d)) e3 f2.lose s2 hg2 hm2' sa (fun g => ⟨us.set n v, upd_same, (Rps.set (val d hl) ru n).go g⟩) h2⟩
    · exact h2.elim
  · rename_i d kd m2 kvs hl hg2
    split at h2
    · exact h2.elim
    rename_i hm2
    simp only [Bool.or_eq_true, not_or, beq_iff_eq, Bool.not_eq_true', Bool.not_eq_false, Bool.and_eq_true] at hm2
    obtain ⟨hm2', ⟨hk1, hk2⟩, hk3⟩ := hm2
    split at h2
    · rename_i hz
      have hz' := of_decide_eq_true hz
      obtain ⟨l, hl1, ol, nl, _⟩ := e3.ow i m2 _ hg2 hm2'
      rw [sa] at hl1
      cases hl1
      have rw2 : Rp H2 (All Ox env2 σ) w kd := hd2.go (Goes1.less fun a z => z.imp (so2 a) id)
      cases kd with
      | str x =>
        obtain ⟨kv, hkv, rk⟩ := ownK ol hk2
        have hw : w = .str x := rw2.ofStr
        subst hw
        have hle := rk.length
        exact .inr (.inl ⟨a, _, rfl, .inl ⟨kv, .inr x, hkv, rfl, by omega, rfl⟩, wrS (d' := .dic (dput kvs (.str x) d)) e3 f2.lose s2 hg2 hm2' sa (fun g => .inl ⟨_, upd_same, (rk.put (.inr x) (val d hl)).go g⟩) h2⟩)
      | tup ks =>
        cases d with
        | bl t =>
          have hv : v = .bl t := (val _ hl).ofBl
          subst hv
          obtain ⟨b, vs, rfl, nb, hb, rb⟩ := rw2.top.tup
          refine .inr (.inr ⟨a, b, All Ox env2 σ, kvs, ks, t, rfl, rfl, rfl, ol, hk1, hk2, by omega, rw2, fun xs hne hx => ?_⟩)
          exact wrS (d' := .dic (dput kvs (.tup ks) (.bl t))) e3 f2.lose s2 hg2 hm2' sa (fun g => .inr ⟨xs, upd_same, hne, hx.go g⟩) h2
        | _ => cases hk3
      | _ => cases hk1
    · exact h2.elim
  · exact h2.elim
/-- others ahead, the beginning kept in sight -/
theorem PostS.from {α β : Type} {qb : Bool} {Wa Ox1 : OS} {Rs1 : Env → α → β → Hp → Prop} {Q' : β → Hp → Prop} {m : R α} {k : α → Env → RS}
    (h : PostS μ Ox H0 M Wa H D (m.toS k)) (f : Fr Wa false H H1) (s : SubS Wa H env1 σ) (so : ∀ a, Ox a → Ox1 a)
    (hk : ∀ r env2 v H2, m = .ok r env2 → Fr (WA env1 σ) qb H1 H2 → (∀ a, WA env2 σ a → WA env1 σ a) → Rs1 env2 r v H2 → PostS μ Ox H0 M Wa H D (k r env2) → Q' v H2) : PostG μ Ox1 H0 M (WA env1 σ) qb σ H1 Rs1 Q' m := by
  cases m with
  | ok r env2 => exact fun v H2 f2 s2 r2 => hk r env2 v H2 rfl f2 s2 r2 h
  | exc x env2 => exact fun cls dx H' f' s' e' x' => h cls dx σ H' (f.transS f' s) (e'.less so) (μ.mono _ _ _ _ _ _ (fun a z => z.imp (so a) id) x')
  | stuck => exact h.elim
/-- a, b = x, y -/
theorem rd_asgP {i j : Nat} (h : rdS μ C (.asgP i j e k) D σ H) : tPar i j (tCons (rdE μ C e) (tCons (rdE μ C k) tNil)) D σ H := by
  obtain ⟨Ox, H0, M, env, ev, h⟩ := h
  refine ⟨Ox, H0, M, env, ev, PostS.exE (by simp only [evS] at h; exact h) fun r env1 v H1 hz1 f s rs h1 => ?_⟩
  obtain ⟨Ox1, so, sb, e1, hd⟩ := rs.ev
  refine ⟨Ox1, H0, M, env1, e1, PostS.from h1 f.lose (sub_of s) so fun r2 env2 w H2 hz2 f2 s2 rs2 h2 => ?_⟩
  have rs2' : Res Ox1 H0 M (WA env1 σ) σ H1 env2 r2 w H2 := rs2
  obtain ⟨Ox2, so2, sb2, e2, hd2⟩ := rs2'.ev
  have e3 := (e2.less so2).less so
  refine ⟨v, w, rfl, ?_⟩
  split at h2
  · rename_i d d2 hl hl2
    split at h2
    · exact h2.elim
    have rw2 : Rp H2 (All Ox env2 σ) w d2 := (low_rp e1 rs2' so2 e2 hd2 hl2).go (Goes1.less fun a z => z.imp (so a) id)
    have rv2 : Rp H2 (All Ox env2 σ) v d := (low_rp ev rs so e1 hd hl).go ⟨fun a o h n => f2.keep a o h fun z => n (.inr z), fun a z => .inl (z.imp id (s2 a))⟩
    cases hb : bindL [i, j] [d, d2] env2 with
    | none => rw [hb] at h2; exact (h2 : False).elim
    | some env3 =>
      rw [hb] at h2
      obtain ⟨v', vs', ev', q⟩ := gs_ok (Qg := fun σ' H' => σ' = (σ.set i (some v)).set j (some w) → D.nx σ' H') (is := [i, j]) e3 (.cons rv2 (.cons rw2 .nil)) hb fun σ' e' w' hw' eq => h2 σ' H2 (f.lose.transS f2.lose (sub_of s)) (fun a z => .inl (s a (s2 a (w' a z)))) e'
      cases ev'
      obtain ⟨v'', vs'', ev'', q⟩ := q
      cases ev''
      exact q.2 rfl
  · exact h2.elim
/-- name = something new, or plain -/
theorem rd_asgM {i : Nat} (h : rdS μ C (.asgM i e) D σ H) : tAsg (rdE μ C e) (gName i) D σ H := by
  obtain ⟨Ox, H0, M, env, ev, h⟩ := h
  simp only [evS] at h
  cases hc : evE C e env with
  | stuck => rw [hc] at h; exact h.elim
  | exc x env1 =>
    refine ⟨Ox, H0, M, env, ev, ?_⟩
    rw [hc] at h ⊢
    exact fun cls dx H' f s e x' => h cls dx σ H' f e x'
  | ok r env1 =>
    have e0 : evE C e env = .ok r env1 := hc
    rw [hc] at h
    simp only [R.toS_ok] at h
    obtain ⟨md, d⟩ := r
    cases md with
    | fr =>
      refine rd_asg (ow := true) ⟨Ox, H0, M, env, ev, ?_⟩
      simp only [evS, e0, R.toS_ok]
      exact h
    | sh =>
      refine rd_asg (ow := false) ⟨Ox, H0, M, env, ev, ?_⟩
      simp only [evS, e0, R.toS_ok]
      split at h
      · exact h.elim
      split at h
      · exact h.elim
      rename_i h1 h2
      rw [if_neg h1, if_neg h2]
      have h' : PostS μ Ox H0 M (WA env σ) H D (if d.pure = true then RS.nx (setS env1 i (some (Sm.sh, d))) else RS.stuck) := h
      split at h'
      · exact h'
      · exact h'.elim
    | bo => simp only at h; split at h <;> (try split at h) <;> exact (h : False).elim
    | mu j => simp only at h; split at h <;> (try split at h) <;> exact (h : False).elim
/-- things are given up as owned -/
theorem EvR.frz (is : List Nat) : ∀ {env : Env}, EvR Ox H0 M env σ H → EvR Ox H0 M (frzE env is) σ H ∧ ∀ a, WA (frzE env is) σ a → WA env σ a := by
  induction is with
  | nil => intro env e; exact ⟨e, fun _ z => z⟩
  | cons i is ih =>
    intro env e
    unfold frzE
    split
    · rename_i d hg
      obtain ⟨e', _⟩ := e.freeze hg (by decide)
      obtain ⟨e2, w2⟩ := ih e'
      exact ⟨e2, fun a z => WA_sh (getS_lt hg) a (w2 a z)⟩
    · exact ih e
theorem rd_frz {is : List Nat} (h : rdS μ C (.seq (.frz is) t) D σ H) : rdS μ C t D σ H := by
  obtain ⟨Ox, H0, M, env, ev, h⟩ := h
  obtain ⟨e', w'⟩ := ev.frz is
  refine ⟨Ox, H0, M, _, e', ?_⟩
  simp only [evS] at h
  exact h.rebase (Ex.fr Ex.rfl') fun a z => .inl (w' a z)
end
end En
end

section
set_option Elab.async false
set_option linter.all false
set_option maxRecDepth 100000
set_option maxHeartbeats 4000000
namespace En
open PySem PySem.Spec L2
variable [Wd]
/-! ### a dict that is walked is locked meanwhile -/
structure Lk (H H' : Hp) : Prop where
  tup : ∀ a vs, Rd H a (.tup vs) → Rd H' a (.tup vs)
  lst : ∀ a vs, Rd H a (.lst vs) → Rd H' a (.lst vs)
  dK : ∀ a vs, Rd H a (.dK vs) → Rd H' a (.dK vs)
  nO : ∀ a xs, H a = some (nO a xs) → H' a = some (nO a xs)
section
variable {H H' H0 : Hp} {O : OS}
mutual
theorem Rp.lk (g : Lk H H') : ∀ {v : V} {d : En.D}, Rp H O v d → Rp H' O v d
  | _, _, .non => .non
  | _, _, .bl b => .bl b
  | _, _, .int i => .int i
  | _, _, .str x => .str x
  | _, _, .tup n h r => .tup n (g.tup _ _ h) (Rps.lk g r)
  | _, _, .lst n h r => .lst n (g.lst _ _ h) (Rps.lk g r)
  | _, _, .dic n h r => .dic n (g.dK _ _ h) (Rpk.lk g r)
  | _, _, .dicN n h z r => .dicN n (g.nO _ _ h) z (Rpn.lk g r)
theorem Rps.lk (g : Lk H H') : ∀ {v : List V} {d : List En.D}, Rps H O v d → Rps H' O v d
  | _, _, .nil => .nil
  | _, _, .cons h r => .cons (Rp.lk g h) (Rps.lk g r)
theorem Rpk.lk (g : Lk H H') : ∀ {v : List (Key × V)} {d : List (En.D × En.D)}, Rpk H O v d → Rpk H' O v d
  | _, _, .nil => .nil
  | _, _, .cons h r => .cons (Rp.lk g h) (Rpk.lk g r)
theorem Rpn.lk (g : Lk H H') : ∀ {v : List (NestedKey × Addr × Value)} {d : List (En.D × En.D)}, Rpn H O v d → Rpn H' O v d
  | _, _, .nil => .nil
  | _, _, .cons h k r => .cons (Rp.lk g h) k (Rpn.lk g r)
end
theorem OwnT.lk {a : Addr} {d : En.D} (g : Lk H H') (k : H' a = H a) (h : OwnT H O a d) : OwnT H' O a d := by
  cases d with
  | lst ds => obtain ⟨vs, h, r⟩ := h; exact ⟨vs, k.trans h, r.lk g⟩
  | dic ds =>
    rcases h with ⟨vs, h, r⟩ | ⟨vs, h, z, r⟩
    · exact .inl ⟨vs, k.trans h, r.lk g⟩
    · exact .inr ⟨vs, k.trans h, z, r.lk g⟩
  | _ => exact h.elim
variable {d : Addr} {od : Obj} {kv : List (Key × V)}
theorem lk_lock (h : H d = some (.dK kv)) : Lk H (upd H d (.frz od (.dK kv))) where
  tup := fun a vs r => by
    have n : a ≠ d := fun z => by rw [z] at r; rcases r with r | ⟨_, r⟩ <;> (rw [h] at r; cases r)
    unfold Rd; rw [upd_ne n]; exact r
  lst := fun a vs r => by
    have n : a ≠ d := fun z => by rw [z] at r; rcases r with r | ⟨_, r⟩ <;> (rw [h] at r; cases r)
    unfold Rd; rw [upd_ne n]; exact r
  dK := fun a vs r => by
    by_cases z : a = d
    · subst z
      rcases r with r | ⟨_, r⟩
      · rw [h] at r; cases r; exact .inr ⟨od, upd_same⟩
      · rw [h] at r; cases r
    · unfold Rd; rw [upd_ne z]; exact r
  nO := fun a xs r => by rw [upd_ne (fun z => by rw [z, h] at r; cases r)]; exact r
theorem lk_free (h : H d = some (.frz od (.dK kv))) : Lk H (upd H d (.dK kv)) where
  tup := fun a vs r => by
    have n : a ≠ d := fun z => by rw [z] at r; rcases r with r | ⟨_, r⟩ <;> (rw [h] at r; cases r)
    unfold Rd; rw [upd_ne n]; exact r
  lst := fun a vs r => by
    have n : a ≠ d := fun z => by rw [z] at r; rcases r with r | ⟨_, r⟩ <;> (rw [h] at r; cases r)
    unfold Rd; rw [upd_ne n]; exact r
  dK := fun a vs r => by
    by_cases z : a = d
    · subst z
      rcases r with r | ⟨_, r⟩
      · rw [h] at r; cases r
      · rw [h] at r; cases r; exact .inl upd_same
    · unfold Rd; rw [upd_ne z]; exact r
  nO := fun a xs r => by rw [upd_ne (fun z => by rw [z, h] at r; cases r)]; exact r
/-- the beginning's heap, the dict locked -/
def lk0 (H0 : Hp) (d : Addr) (u : HO) : Hp := fun a => match H0 a with
  | none => none
  | some o => if a = d then some u else some o
theorem lk0_ne {u : HO} {a : Addr} (n : a ≠ d) : lk0 H0 d u a = H0 a := by
  unfold lk0
  cases h : H0 a with
  | none => rfl
  | some o => simp [n]
theorem lk0_none {u : HO} {a : Addr} : lk0 H0 d u a = none ↔ H0 a = none := by
  unfold lk0
  cases h : H0 a with
  | none => simp
  | some o => by_cases n : a = d <;> simp [n]
variable {Ox M : OS} {env : Env} {σ : L2.St}
theorem EvR.lock (e : EvR Ox H0 M env σ H) (h : H d = some (.dK kv)) (n : ¬ All Ox env σ d) : EvR Ox (lk0 H0 d (.frz od (.dK kv))) M env σ (upd H d (.frz od (.dK kv))) := by
  have g := lk_lock (od := od) h
  refine ⟨e.len, fun i dd hi => ?_, fun i m dd hi hm => ?_, e.inj, fun a o ha hM => ?_, fun a ha => ?_, fun a ha => ?_⟩
  · obtain ⟨v, a, b⟩ := e.sh i dd hi
    exact ⟨v, a, b.lk g⟩
  · obtain ⟨a, b, c, n1, r1, r2⟩ := e.ow i m dd hi hm
    have na : a ≠ d := fun z => n (by rw [← z]; exact .inr ⟨i, isOw_of hi hm, b⟩)
    exact ⟨a, b, c.lk g (upd_ne na), n1, fun z => lk0_none.mpr (r1 z), r2⟩
  · by_cases z : a = d
    · subst z
      rw [upd_same]
      unfold lk0 at ha
      split at ha
      · cases ha
      · rw [if_pos rfl] at ha; exact ha
    · rw [lk0_ne z] at ha
      rw [upd_ne z]; exact e.pres a o ha hM
  · by_cases z : a = d
    · rw [z, upd_same]; simp
    · rw [upd_ne z]; exact e.dom a ha
  · by_cases z : a = d
    · rw [z, upd_same]; simp
    · rw [upd_ne z]; exact e.mdom a ha
theorem EvR.free (e : EvR Ox (lk0 H0 d (.frz od (.dK kv))) M env σ H) (h : H d = some (.frz od (.dK kv))) (n : ¬ All Ox env σ d) (h0 : ∀ o, H0 d = some o → ¬ M d → o = .dK kv) : EvR Ox H0 M env σ (upd H d (.dK kv)) := by
  have g := lk_free h
  refine ⟨e.len, fun i dd hi => ?_, fun i m dd hi hm => ?_, e.inj, fun a o ha hM => ?_, fun a ha => ?_, fun a ha => ?_⟩
  · obtain ⟨v, a, b⟩ := e.sh i dd hi
    exact ⟨v, a, b.lk g⟩
  · obtain ⟨a, b, c, n1, r1, r2⟩ := e.ow i m dd hi hm
    have na : a ≠ d := fun z => n (by rw [← z]; exact .inr ⟨i, isOw_of hi hm, b⟩)
    exact ⟨a, b, c.lk g (upd_ne na), n1, fun z => lk0_none.mp (r1 z), r2⟩
  · by_cases z : a = d
    · subst z
      rw [upd_same, h0 o ha hM]
    · rw [upd_ne z]; exact e.pres a o (by rw [lk0_ne z]; exact ha) hM
  · by_cases z : a = d
    · rw [z, upd_same]; simp
    · rw [upd_ne z]; exact e.dom a ha
  · by_cases z : a = d
    · rw [z, upd_same]; simp
    · rw [upd_ne z]; exact e.mdom a ha
end

/-! ### the walks -/
section
variable {Hs : Hp} {Wa Os : OS} {d : Addr} {od : Obj} {kv : List (Key × V)} {ds : List (En.D × En.D)}
theorem Rpk.at {H : Hp} {O : OS} {kv : List (Key × V)} {ds : List (En.D × En.D)} (r : Rpk H O kv ds) : ∀ {i : Nat} {p : En.D × En.D}, ds[i]? = some p → ∃ k v, kv[i]? = some (k, v) ∧ p.1 = kD k ∧ Rp H O v p.2 := by
  induction kv generalizing ds with
  | nil => cases r; intro i p h; simp at h
  | cons q kv ih => cases r with
    | @cons k v _ dd ds1 h r =>
      intro i p e
      cases i with
      | zero => simp at e; subst e; exact ⟨k, v, rfl, rfl, h⟩
      | succ i => exact ih r (by simpa using e)
theorem kV_rp {H : Hp} {O : OS} (k : Key) : Rp H O (kV k) (kD k) := by
  cases k with
  | inl i => exact .int i
  | inr x => exact .str x
theorem walk_items (sw : ∀ a, Wa a → Os a) (n : ¬ Wa d) (h : Hs d = some (.frz od (.dK kv))) (r : Rpk Hs Os kv ds) : Walks (Iti d od kv) (ds.map fun p => .tup [p.1, p.2]) Hs Wa Os := fun H O k o hO => by
  have h' : H d = some (.frz od (.dK kv)) := k d _ h n
  have r' : Rpk H O kv ds := r.go (goes_of sw k o)
  refine ⟨fun i x e => ?_, fun i hi => ⟨h', by rw [r.length]; simpa using hi⟩⟩
  rw [List.getElem?_map] at e
  obtain ⟨p, ep, rfl⟩ := Option.map_eq_some_iff.mp e
  obtain ⟨k1, v1, e1, e2, rv⟩ := r'.at ep
  refine ⟨⟨h', (List.getElem?_eq_some_iff.mp e1).1⟩, fun y H' yl => ?_⟩
  obtain ⟨T, k2, v2, e3, rfl, hT, rfl⟩ := yl
  rw [e1] at e3
  cases e3
  rw [e2]
  exact ⟨Ex.new hT, .tup (fun z => hO T z hT) (.inl upd_same) (.cons (kV_rp k1) (.cons (rv.go (Goes1.ex (Ex.new hT))) .nil))⟩
theorem walk_keys (sw : ∀ a, Wa a → Os a) (n : ¬ Wa d) (h : Hs d = some (.frz od (.dK kv))) (r : Rpk Hs Os kv ds) : Walks (Itk d od kv) (ds.map (·.1)) Hs Wa Os := fun H O k o hO => by
  have h' : H d = some (.frz od (.dK kv)) := k d _ h n
  have r' : Rpk H O kv ds := r.go (goes_of sw k o)
  refine ⟨fun i x e => ?_, fun i hi => ⟨h', by rw [r.length]; simpa using hi⟩⟩
  rw [List.getElem?_map] at e
  obtain ⟨p, ep, rfl⟩ := Option.map_eq_some_iff.mp e
  obtain ⟨k1, v1, e1, e2, rv⟩ := r'.at ep
  refine ⟨⟨h', (List.getElem?_eq_some_iff.mp e1).1⟩, fun y H' yl => ?_⟩
  obtain ⟨rfl, k2, v2, e3, rfl⟩ := yl
  rw [e1] at e3
  cases e3
  rw [e2]
  exact ⟨Ex.rfl', kV_rp k1⟩
end

/-! ### for .. in d, for .. in d.items() -/
section
variable {μ : Mo} {C : Calls} {D : Ends} {σ : L2.St} {H H1 H0 : Hp} {Ox M : OS} {env env1 : Env} {s : S} {K : PySem.W.Frag} {tg : Tg} {k : ItK}
def itDic (k : ItK) (te : TE) : TI := match k with
  | .items => iItems te
  | _ => iKeys te
/-- the loop, its things known -/
theorem loop_hard {J : It} {xs : List En.D} (e1 : EvR Ox H0 M env σ H) (wk : Walks J xs H (WA env σ) (All Ox env σ)) (h : PostS μ Ox H0 M (WA env σ) H D (forL tg (evS C s) xs env).hard) :
    ∃ W : Nat → Nat → L2.St → Hp → Prop, (∃ m, W 0 m σ H) ∧ ∀ i m σ H, W i m σ H → (J.stop i H ∧ D.nx σ H) ∨ (J.go i H ∧ ∃ N : L2.St → Hp → Prop, (∀ σ' H', N σ' H' → ∃ m', m' < m ∧ W (i + 1) m' σ' H') ∧ ∀ x H', J.yld i H x H' → gOf K tg x σ H' fun σ2 H2 => rdS μ C s { D with nx := N, ct := N, bk := D.nx } σ2 H2) := by
  refine ⟨fun i m σc Hc => ∃ ec, m = xs.length - i ∧ i ≤ xs.length ∧ EvR Ox H0 M ec σc Hc ∧ Fr (WA env σ) false H Hc ∧ SubS (WA env σ) H ec σc ∧ PostS μ Ox H0 M (WA env σ) H D (forL tg (evS C s) (xs.drop i) ec).hard, ?_, ?_⟩
  · exact ⟨xs.length, env, by omega, Nat.zero_le _, e1, Ex.fr Ex.rfl', fun a z => .inl z, by rw [List.drop_zero]; exact h⟩
  · rintro i m σc Hc ⟨ec, rfl, hi, e2, f2, s2, hP⟩
    have T : Turns J xs Hc (All Ox ec σc) := wk Hc _ f2.keep (fun x z => by
      rcases z with z | z
      · exact .inl (.inl z)
      · exact (s2 x z).imp .inr id) e2.domA
    by_cases hlt : i < xs.length
    · obtain ⟨go, yl⟩ := T.go i xs[i] (List.getElem?_eq_getElem hlt)
      refine .inr ⟨go, _, fun σ' H' hN => ⟨xs.length - (i + 1), by omega, hN⟩, fun x H' y => ?_⟩
      obtain ⟨x', rx⟩ := yl x H' y
      rw [List.drop_eq_getElem_cons hlt, forL] at hP
      have e3 := e2.ex x'
      cases hb : bindTg tg xs[i] ec with
      | none => rw [hb] at hP; exact hP.elim
      | some eb =>
        rw [hb] at hP
        simp only at hP
        refine g_ok e3 rx hb fun σ2 e4 w4 _ => ?_
        refine ⟨Ox, H0, M, eb, e4, ?_⟩
        have f3 : Fr (WA env σ) false H H' := f2.transS (x'.fr (Wa := WA env σ) (q := false)) fun a z => .inl z
        have s3 : SubS (WA env σ) H eb σ2 := fun a z => s2 a (w4 a z)
        cases hm : evS C s eb with
        | nx env2 =>
          rw [hm] at hP
          refine fun σ' H'' f' s' e' => ⟨env2, rfl, hlt, e', f3.transS f' s3, fun a z => (s' a z).elim (s3 a) fun z => .inr (f3.none_back z), hP⟩
        | rt v env2 => rw [hm] at hP; exact (hP.rebase f3 s3)
        | exc x env2 => rw [hm] at hP; exact (hP : False).elim
        | stuck => rw [hm] at hP; exact hP.elim
    · refine .inl ⟨T.stop i (by omega), ?_⟩
      rw [List.drop_of_length_le (by omega)] at hP
      exact hP σc Hc f2 s2 e2
theorem hard_lock {d : Addr} {od : Obj} {kv : List (Key × V)} {r : RS} (ev : EvR Ox H0 M env σ H) (hd : H d = some (.dK kv)) (n : ¬ All Ox env σ d) (h : PostS μ Ox H0 M (WA env σ) H D r.hard) :
    PostS μ Ox (lk0 H0 d (.frz od (.dK kv))) M (WA env σ) (upd H d (.frz od (.dK kv))) ⟨fun σ' H' => H' d = some (.frz od (.dK kv)) ∧ D.nx σ' (upd H' d (.dK kv)), fun v H' => H' d = some (.frz od (.dK kv)) ∧ D.rt v (upd H' d (.dK kv)), fun σ' H' => H' d = some (.frz od (.dK kv)) ∧ D.bk σ' (upd H' d (.dK kv)), fun σ' H' => H' d = some (.frz od (.dK kv)) ∧ D.ct σ' (upd H' d (.dK kv))⟩ r.hard := by
  have nW : ¬ WA env σ d := fun z => n (.inr z)
  have nx : ¬ Ox d := fun z => n (.inl z)
  have h0 : ∀ o, H0 d = some o → ¬ M d → o = .dK kv := fun o z zM => by have := ev.pres d o z zM; rw [hd] at this; cases this; rfl
  have frB : ∀ {H' : Hp}, Fr (WA env σ) false (upd H d (.frz od (.dK kv))) H' → H' d = some (.frz od (.dK kv)) ∧ Fr (WA env σ) false H (upd H' d (.dK kv)) := fun {H'} f => by
    refine ⟨f.keep d _ upd_same nW, fun a o ha na => ?_, fun a ha => ?_, fun z => nomatch z⟩
    · by_cases z : a = d
      · rw [z, hd] at ha; cases ha; rw [z, upd_same]
      · rw [upd_ne z]; exact f.keep a o (by rw [upd_ne z]; exact ha) na
    · by_cases z : a = d
      · rw [z, upd_same]; simp
      · rw [upd_ne z]; exact f.dom a (by rw [upd_ne z]; exact ha)
  have sub : ∀ {env' : Env} {σ' : L2.St}, SubS (WA env σ) (upd H d (.frz od (.dK kv))) env' σ' → SubS (WA env σ) H env' σ' := fun {env' σ'} s a z => (s a z).imp id fun q => by
    by_cases y : a = d
    · rw [y, upd_same] at q; cases q
    · rw [upd_ne y] at q; exact q
  have nA : ∀ {env' : Env} {σ' : L2.St} {Oy : OS}, (Oy d → False) → (WA env' σ' d → False) → ¬ All Oy env' σ' d := fun {env' σ' Oy} n1 n2 z => z.elim n1 n2
  cases r with
  | stuck => exact h.elim
  | exc x env' => exact (h : False).elim
  | nx env' =>
    intro σ' H' f s e'
    obtain ⟨q1, q2⟩ := frB f
    have nW' : WA env' σ' d → False := fun z => by
      rcases s d z with z | z
      · exact nW z
      · rw [upd_same] at z; cases z
    exact ⟨q1, h σ' _ q2 (sub s) (e'.free q1 (nA nx nW') h0)⟩
  | rt v env' =>
    intro w σ' H' f rr
    obtain ⟨q1, q2⟩ := frB f
    refine ⟨q1, h w σ' _ q2 ?_⟩
    have own : ∀ {Oy : OS} {H'' : Hp}, EvR Oy (lk0 H0 d (.frz od (.dK kv))) M env' σ' H'' → H'' d = some (.frz od (.dK kv)) → WA env' σ' d → False := fun {Oy H''} e q z => by
      obtain ⟨i, hi, hs⟩ := z
      obtain ⟨m, dd, hg, hm⟩ := isOw_iff.mp hi
      obtain ⟨b, hb, ho, _⟩ := e.ow i m dd hg hm
      rw [hs] at hb
      cases hb
      cases dd with
      | lst ds => obtain ⟨us, h, _⟩ := ho; rw [q] at h; cases h
      | dic ds => rcases ho with ⟨us, h, _⟩ | ⟨us, h, _⟩ <;> (rw [q] at h; cases h)
      | _ => exact ho.elim
    obtain ⟨md, dd⟩ := v
    cases md with
    | sh =>
      obtain ⟨e', rv⟩ := rr
      exact ⟨e'.free q1 (nA nx (own e' q1)) h0, rv.lk (lk_free q1)⟩
    | fr =>
      obtain ⟨p, rfl, hp0, e', op⟩ := rr
      have np : p ≠ d := fun z => by
        rw [z] at op
        cases dd with
        | lst ds => obtain ⟨us, h, _⟩ := op; rw [q1] at h; cases h
        | dic ds => rcases op with ⟨us, h, _⟩ | ⟨us, h, _⟩ <;> (rw [q1] at h; cases h)
        | _ => exact op.elim
      refine ⟨p, rfl, lk0_none.mp hp0, e'.free q1 (nA (fun z => z.elim nx fun z => np z.symm) (own e' q1)) h0, op.lk (lk_free q1) (upd_ne np)⟩
    | bo => exact rr
    | mu i => exact rr
theorem rd_forD {vs : List Nat} {i : Nat} (h : rdS μ C (.forD vs i tg k s) D σ H) : tLock (tFor (itDic k (tVar i)) (gOf K tg) (rdS μ C s)) D σ H ∨ tFor (itDic k (tVar i)) (gOf K tg) (rdS μ C s) D σ H := by
  obtain ⟨Ox, H0, M, env, ev, h⟩ := h
  simp only [evS] at h
  split at h
  · rename_i kvs hg
    split at h
    · rename_i hk
      split at h
      · rename_i xs hx
        obtain ⟨v, hv, rv⟩ := ev.sh i _ hg
        have core : ∀ (d : Addr) (od : Obj) (kv : List (Key × V)) (H0' Hf : Hp) (Df : Ends), v = .ref d → EvR Ox H0' M env σ Hf → Hf d = some (.frz od (.dK kv)) → ¬ WA env σ d → Rpk Hf (All Ox env σ) kv kvs → PostS μ Ox H0' M (WA env σ) Hf Df (forL tg (evS C s) xs env).hard →
            tFor (itDic k (tVar i)) (gOf K tg) (rdS μ C s) Df σ Hf := fun d od kv H0' Hf Df hvd e hd nW rk hP => by
          cases k with
          | items =>
            simp only [src1] at hx
            split at hx
            · cases hx
              exact ⟨v, hv, d, od, kv, hvd, hd, loop_hard e (walk_items (fun _ z => .inr z) nW hd rk) hP⟩
            · cases hx
          | keys =>
            simp only [src1] at hx
            split at hx
            · cases hx
              exact ⟨v, hv, d, od, hvd, .inl ⟨kv, hd, loop_hard e (walk_keys (fun _ z => .inr z) nW hd rk) hP⟩⟩
            · cases hx
          | _ => cases hk
        have hstr : strK kvs = true := by
          cases k <;> simp only [src1] at hx <;> first
            | (cases hk; done)
            | (split at hx <;> first | assumption | (cases hx; done))
        cases rv with
        | @dic d kv _ n hr rk =>
          have nW : ¬ WA env σ d := fun z => n (.inr z)
          rcases hr with hr | ⟨od, hr⟩
          · refine .inl ⟨d, .dK kv, hr, trivial, fun od => ?_⟩
            exact core d od kv _ _ _ rfl (ev.lock hr n) upd_same nW (rk.lk (lk_lock hr)) (hard_lock ev hr n h)
          · exact .inr (core d od kv _ _ _ rfl ev hr nW rk h)
        | dicN n hr z r =>
          cases r with
          | nil => exact absurd rfl z
          | cons => simp [strK] at hstr
      · exact h.elim
    · exact h.elim
  · exact h.elim
end
end En
end

section
set_option Elab.async false
set_option linter.all false
set_option maxRecDepth 100000
set_option maxHeartbeats 4000000
namespace En
open PySem PySem.Spec L2
variable [Wd]
section
variable {μ : Mo} {C : Calls} {D : Ends} {σ : L2.St} {H H1 H0 : Hp} {Ox M : OS} {env env1 : Env} {c : E} {K : PySem.W.Frag}
/-- for y in x: if c: return b, the list owned -/
theorem rd_forC {i j : Nat} {b : En.D} {vb : V} (hb : flatD b = some vb) (h : rdS μ C (.forC i j c b) D σ H) : tFor (iList K (tVar i)) (gName j) (tSeq (tIfS (rdT μ C c) (tSeq (tRet (tC vb)) tNext) tNext) tNext) D σ H := by
  obtain ⟨Ox, H0, M, env, ev, h⟩ := h
  simp only [evS] at h
  split at h
  · rename_i m ds hg
    split at h
    · exact h.elim
    rename_i hn
    simp only [Bool.or_eq_true, not_or, beq_iff_eq, Bool.not_eq_true', Bool.not_eq_false, decide_eq_true_eq, Nat.not_le] at hn
    obtain ⟨⟨⟨⟨⟨⟨hm, hij⟩, hq⟩, ht⟩, hj⟩, hl⟩, hp⟩ := hn
    obtain ⟨a, sa, ⟨us, hus, ru⟩, na, _⟩ := ev.ow i m _ hg hm
    have hvs : ∀ z ∈ j :: touchE c, isOw env z = false := fun z hz => by
      rcases List.mem_cons.mp hz with e | e
      · rw [e]; simpa using hj
      · cases hc : isOw env z with
        | false => rfl
        | true => exact absurd (List.any_eq_true.mpr ⟨z, e, hc⟩) ht
    have fin : ∀ (σc : L2.St) (Hc : Hp), Ex H Hc → (σc = σ ∨ ∃ v, σc = σ.set j (some v)) → EvR Ox H0 M (setS (wipeE env (touchE c)) j none) σc Hc ∧ SubS (WA env σ) H (setS (wipeE env (touchE c)) j none) σc := fun σc Hc x hσ => by
      obtain ⟨e1, w1⟩ := (ev.ex x).wipes hvs
      have hlen : σc.length = σ.length := by rcases hσ with rfl | ⟨v, rfl⟩ <;> simp
      obtain ⟨e2, w2⟩ := e1.slots (σ' := σc) hlen fun z hz => by
        have nz : z ≠ j := fun e => hz (by rw [getS_wipe, if_pos (by rw [e]; exact .head _)])
        rcases hσ with rfl | ⟨v, rfl⟩
        · rfl
        · rw [List.getElem?_set_ne (Ne.symm nz)]
      exact ⟨e2, fun z hz => .inl ((w1 z).mp ((w2 z).mp hz))⟩
    refine ⟨.ref a, sa, a, rfl, ⟨us, .inl (.inl hus)⟩, fun t m' σc Hc => (σc = σ ∨ ∃ v, σc = σ.set j (some v)) ∧ Ex H Hc ∧ m' = ds.length - t ∧ t ≤ ds.length ∧ PostS μ Ox H0 M (WA env σ) H D (forCL (fun x => evE C c (setS env j (some (.sh, x)))) b (wipeE env (touchE c)) j (ds.drop t)), ⟨ds.length, .inl rfl, Ex.rfl', rfl, Nat.zero_le _, by rw [List.drop_zero]; exact h⟩, ?_⟩
    rintro t m' σc Hc ⟨hσ, x, rfl, ht', hP⟩
    have T : Turns (Itl K a) ds Hc (All Ox env σ) := walk_list (Wa := fun _ => False) (Os := All Ox env σ) (fun _ z => z.elim) (fun z => z) (.inl hus) ru Hc _ (fun b o hb _ => x b o hb) (fun _ z => .inl z) (ev.ex x).domA
    by_cases hlt : t < ds.length
    · obtain ⟨go, yl⟩ := T.go t ds[t] (List.getElem?_eq_getElem hlt)
      refine .inr ⟨go, _, fun σ' H' hN => ⟨ds.length - (t + 1), by omega, hN⟩, fun y H' yy => ?_⟩
      obtain ⟨x', rx⟩ := yl y H' yy
      rw [List.drop_eq_getElem_cons hlt, forCL] at hP
      have eσ : σc.set j (some y) = σ.set j (some y) := by rcases hσ with rfl | ⟨v, rfl⟩ <;> simp
      show tSeq _ _ _ (σc.set j (some y)) H'
      rw [eσ]
      have e3 := (ev.ex (x.trans x')).put hl rx
      refine ⟨Ox, H0, M, _, e3, ?_⟩
      cases hc : evE C c (setS env j (some (.sh, ds[t]))) with
      | stuck => simp only [hc] at hP; exact hP.elim
      | exc z ez => simp only [hc] at hP; exact hP.elim
      | ok r env2 =>
        simp only [hc] at hP
        intro w H2 f2 s2 rs2
        have x2 : Ex H H2 := (x.trans x').trans (f2.ex hq)
        obtain ⟨md, dd⟩ := r
        cases md with
        | sh =>
          cases dd with
          | bl tt =>
            refine ⟨tt, rs2.2.ofBl, ?_⟩
            cases tt with
            | true =>
              simp only at hP
              refine iteT ?_
              show D.rt vb H2
              obtain ⟨e4, _⟩ := fin σ H2 x2 (.inl rfl)
              exact hP vb σ H2 x2.fr ⟨e4, flat_rp hb⟩
            | false =>
              simp only at hP
              exact iteF ⟨.inr ⟨y, rfl⟩, x2, rfl, hlt, hP⟩
          | _ => exact hP.elim
        | _ => exact (hP : False).elim
    · refine .inl ⟨T.stop t (by omega), ?_⟩
      rw [List.drop_of_length_le (by omega), forCL] at hP
      obtain ⟨e4, s4⟩ := fin σc Hc x hσ
      exact hP σc Hc x.fr s4 e4
  · exact h.elim
end
end En
end

section
set_option Elab.async false
set_option linter.all false
set_option maxRecDepth 100000
set_option maxHeartbeats 4000000
namespace En
open PySem PySem.Spec L2
variable [Wd]

/-! ### forms of the given text -/
def noStar (e : Expr) : Bool := match e with
  | .Starred _ _ => false
  | _ => true
def fName (p : Str → Bool) (e : Expr) : Bool := match e with
  | .Name x _ => p x
  | _ => false
def fCon (p : Const → Bool) (e : Expr) : Bool := match e with
  | .Constant c _ _ => p c
  | _ => false
def fUn (p : UnaryOp → Expr → Bool) (e : Expr) : Bool := match e with
  | .UnaryOp o x _ => p o x
  | _ => false
def fBin (p : Operator → Expr → Expr → Bool) (e : Expr) : Bool := match e with
  | .BinOp x o y _ => p o x y
  | _ => false
def fCmp (p : CmpOp → Expr → Expr → Bool) (e : Expr) : Bool := match e with
  | .Compare x [o] [y] _ => p o x y
  | _ => false
def fCmp2 (p : CmpOp → CmpOp → Expr → Expr → Expr → Bool) (e : Expr) : Bool := match e with
  | .Compare x [o, o'] [y, z] _ => p o o' x y z
  | _ => false
def fCall1 (p : Str → Expr → Bool) (e : Expr) : Bool := match e with
  | .Call (.Name f _) [x] [] _ => p f x
  | _ => false
def fCall2 (p : Str → Expr → Expr → Bool) (e : Expr) : Bool := match e with
  | .Call (.Name f _) [x, y] [] _ => p f x y
  | _ => false
def fCall (p : Str → List Expr → Bool) (e : Expr) : Bool := match e with
  | .Call (.Name f _) (x :: xs) [] _ => p f (x :: xs)
  | _ => false
def fCallK (p : Str → Expr → Option Str → Expr → Bool) (e : Expr) : Bool := match e with
  | .Call (.Name f _) [x] [⟨n, y, _⟩] _ => p f x n y
  | _ => false
def fMeth1 (p : Str → Expr → Expr → Bool) (e : Expr) : Bool := match e with
  | .Call (.Attribute o m apos) [x] [] pos => (apos.endLine == pos.line) && p m o x
  | _ => false
/-- methods of a name -/
def fMt0 (p : Str → Str → Bool) (e : Expr) : Bool := match e with
  | .Call (.Attribute (.Name o _) m apos) [] [] pos => (apos.endLine == pos.line) && p m o
  | _ => false
def fMt1 (p : Str → Str → Expr → Bool) (e : Expr) : Bool := match e with
  | .Call (.Attribute (.Name o _) m apos) [x] [] pos => (apos.endLine == pos.line) && noStar x && p m o x
  | _ => false
def fMt2 (p : Str → Str → Expr → Expr → Bool) (e : Expr) : Bool := match e with
  | .Call (.Attribute (.Name o _) m apos) [x, y] [] pos => (apos.endLine == pos.line) && noStar x && noStar y && p m o x y
  | _ => false
def fSub (p : Expr → Expr → Bool) (e : Expr) : Bool := match e with
  | .Subscript x y _ => p x y
  | _ => false
def fSl (p : Expr → Option Expr → Option Expr → Bool) (e : Expr) : Bool := match e with
  | .Subscript x (.Slice lo hi none _) _ => p x lo hi
  | _ => false
def fBool (p : BoolOp → List Expr → Pos → Bool) (e : Expr) : Bool := match e with
  | .BoolOp o xs pos => p o xs pos
  | _ => false
def fIf (p : Expr → Expr → Expr → Bool) (e : Expr) : Bool := match e with
  | .IfExp c x y _ => p c x y
  | _ => false
def fTup (p : List Expr → Bool) (e : Expr) : Bool := match e with
  | .Tuple es _ _ => p es
  | _ => false
def fLst (p : List Expr → Bool) (e : Expr) : Bool := match e with
  | .List es _ => p es
  | _ => false
def fLc (p : Expr → Expr → Expr → List Expr → Scope → Bool) (e : Expr) : Bool := match e with
  | .ListComp elt [⟨tg, it, ifs, a⟩] sc _ => (a == 0) && p elt tg it ifs sc
  | _ => false
def fDic (p : List (Option Expr) → List Expr → Bool) (e : Expr) : Bool := match e with
  | .Dict ks vs _ => p ks vs
  | _ => false

section
variable {e : Expr}
theorem iName {p : Str → Bool} (h : fName p e = true) : ∃ x pos, e = .Name x pos ∧ p x = true := by
  unfold fName at h; split at h
  · exact ⟨_, _, rfl, h⟩
  · cases h
theorem iCon {p : Const → Bool} (h : fCon p e = true) : ∃ c k pos, e = .Constant c k pos ∧ p c = true := by
  unfold fCon at h; split at h
  · exact ⟨_, _, _, rfl, h⟩
  · cases h
theorem iUn {p : UnaryOp → Expr → Bool} (h : fUn p e = true) : ∃ o x pos, e = .UnaryOp o x pos ∧ p o x = true := by
  unfold fUn at h; split at h
  · exact ⟨_, _, _, rfl, h⟩
  · cases h
theorem iBin {p : Operator → Expr → Expr → Bool} (h : fBin p e = true) : ∃ o x y pos, e = .BinOp x o y pos ∧ p o x y = true := by
  unfold fBin at h; split at h
  · exact ⟨_, _, _, _, rfl, h⟩
  · cases h
theorem iCmp {p : CmpOp → Expr → Expr → Bool} (h : fCmp p e = true) : ∃ o x y pos, e = .Compare x [o] [y] pos ∧ p o x y = true := by
  unfold fCmp at h; split at h
  · exact ⟨_, _, _, _, rfl, h⟩
  · cases h
theorem iCmp2 {p : CmpOp → CmpOp → Expr → Expr → Expr → Bool} (h : fCmp2 p e = true) : ∃ o o' x y z pos, e = .Compare x [o, o'] [y, z] pos ∧ p o o' x y z = true := by
  unfold fCmp2 at h; split at h
  · exact ⟨_, _, _, _, _, _, rfl, h⟩
  · cases h
theorem iCall1 {p : Str → Expr → Bool} (h : fCall1 p e = true) : ∃ f fp x pos, e = .Call (.Name f fp) [x] [] pos ∧ p f x = true := by
  unfold fCall1 at h; split at h
  · exact ⟨_, _, _, _, rfl, h⟩
  · cases h
theorem iCall2 {p : Str → Expr → Expr → Bool} (h : fCall2 p e = true) : ∃ f fp x y pos, e = .Call (.Name f fp) [x, y] [] pos ∧ p f x y = true := by
  unfold fCall2 at h; split at h
  · exact ⟨_, _, _, _, _, rfl, h⟩
  · cases h
theorem iCall {p : Str → List Expr → Bool} (h : fCall p e = true) : ∃ f fp x xs pos, e = .Call (.Name f fp) (x :: xs) [] pos ∧ p f (x :: xs) = true := by
  unfold fCall at h; split at h
  · exact ⟨_, _, _, _, _, rfl, h⟩
  · cases h
theorem iCallK {p : Str → Expr → Option Str → Expr → Bool} (h : fCallK p e = true) : ∃ f fp x n y kp pos, e = .Call (.Name f fp) [x] [⟨n, y, kp⟩] pos ∧ p f x n y = true := by
  unfold fCallK at h; split at h
  · exact ⟨_, _, _, _, _, _, _, rfl, h⟩
  · cases h
theorem iMeth1 {p : Str → Expr → Expr → Bool} (h : fMeth1 p e = true) : ∃ o m apos x pos, e = .Call (.Attribute o m apos) [x] [] pos ∧ (apos.endLine == pos.line) = true ∧ p m o x = true := by
  unfold fMeth1 at h; split at h
  · exact ⟨_, _, _, _, _, rfl, Bool.and_eq_true _ _ ▸ h⟩
  · cases h
theorem iMt0 {p : Str → Str → Bool} (h : fMt0 p e = true) : ∃ o op m apos pos, e = .Call (.Attribute (.Name o op) m apos) [] [] pos ∧ (apos.endLine == pos.line) = true ∧ p m o = true := by
  unfold fMt0 at h; split at h
  · exact ⟨_, _, _, _, _, rfl, Bool.and_eq_true _ _ ▸ h⟩
  · cases h
theorem iMt1 {p : Str → Str → Expr → Bool} (h : fMt1 p e = true) : ∃ o op m apos x pos, e = .Call (.Attribute (.Name o op) m apos) [x] [] pos ∧ (apos.endLine == pos.line) = true ∧ noStar x = true ∧ p m o x = true := by
  unfold fMt1 at h; split at h
  · simp only [Bool.and_eq_true] at h; exact ⟨_, _, _, _, _, _, rfl, h.1.1, h.1.2, h.2⟩
  · cases h
theorem iMt2 {p : Str → Str → Expr → Expr → Bool} (h : fMt2 p e = true) : ∃ o op m apos x y pos, e = .Call (.Attribute (.Name o op) m apos) [x, y] [] pos ∧ (apos.endLine == pos.line) = true ∧ noStar x = true ∧ noStar y = true ∧ p m o x y = true := by
  unfold fMt2 at h; split at h
  · simp only [Bool.and_eq_true] at h; exact ⟨_, _, _, _, _, _, _, rfl, h.1.1.1, h.1.1.2, h.1.2, h.2⟩
  · cases h
theorem iSub {p : Expr → Expr → Bool} (h : fSub p e = true) : ∃ x y pos, e = .Subscript x y pos ∧ p x y = true := by
  unfold fSub at h; split at h
  · exact ⟨_, _, _, rfl, h⟩
  · cases h
theorem iSl {p : Expr → Option Expr → Option Expr → Bool} (h : fSl p e = true) : ∃ x lo hi p2 pos, e = .Subscript x (.Slice lo hi none p2) pos ∧ p x lo hi = true := by
  unfold fSl at h; split at h
  · exact ⟨_, _, _, _, _, rfl, h⟩
  · cases h
theorem iBool {p : BoolOp → List Expr → Pos → Bool} (h : fBool p e = true) : ∃ o xs pos, e = .BoolOp o xs pos ∧ p o xs pos = true := by
  unfold fBool at h; split at h
  · exact ⟨_, _, _, rfl, h⟩
  · cases h
theorem iIf {p : Expr → Expr → Expr → Bool} (h : fIf p e = true) : ∃ c x y pos, e = .IfExp c x y pos ∧ p c x y = true := by
  unfold fIf at h; split at h
  · exact ⟨_, _, _, _, rfl, h⟩
  · cases h
theorem iTup {p : List Expr → Bool} (h : fTup p e = true) : ∃ es k pos, e = .Tuple es k pos ∧ p es = true := by
  unfold fTup at h; split at h
  · exact ⟨_, _, _, rfl, h⟩
  · cases h
theorem iLst {p : List Expr → Bool} (h : fLst p e = true) : ∃ es pos, e = .List es pos ∧ p es = true := by
  unfold fLst at h; split at h
  · exact ⟨_, _, rfl, h⟩
  · cases h
theorem iLc {p : Expr → Expr → Expr → List Expr → Scope → Bool} (h : fLc p e = true) : ∃ elt tg it ifs sc pos, e = .ListComp elt [⟨tg, it, ifs, 0⟩] sc pos ∧ p elt tg it ifs sc = true := by
  unfold fLc at h; split at h
  · rename_i a sc pos
    have h' := Bool.and_eq_true _ _ ▸ h
    have := eq_of_beq h'.1
    subst this
    exact ⟨_, _, _, _, _, _, rfl, h'.2⟩
  · cases h
theorem iDic {p : List (Option Expr) → List Expr → Bool} (h : fDic p e = true) : ∃ ks vs pos, e = .Dict ks vs pos ∧ p ks vs = true := by
  unfold fDic at h; split at h
  · exact ⟨_, _, _, rfl, h⟩
  · cases h
end

/-! ### names -/
def visB (sc : Scope) (x : Str) : Bool := match sc.names.lookup x with
  | some .local => true
  | some .cell => true
  | some .free => true
  | _ => false
def locB (sc : Scope) (x : Str) : Bool := match sc.names.lookup x with
  | some .local => true
  | some .cell => true
  | _ => false
def glB (sc : Scope) (x : Str) : Bool := match sc.names.lookup x with
  | some .globalImplicit => true
  | _ => false
def plainN (x : Str) : Bool := !(x == ("__debug__" : Str)) && !(x == ("__classdict__" : Str)) && !(x == ("__name__" : Str))
def slotB (N : List Str) (sc : Scope) (i : Nat) (x : Str) : Bool := decide (N[i]? = some x) && visB sc x && plainN x
/-- a name that may be stored -/
def stB (fb : Str → Bool) (sc : Scope) (x : Str) : Bool := match sc.names.lookup x with
  | some .local => true
  | some .cell => fb x
  | _ => false
def storB (N : List Str) (fb : Str → Bool) (sc : Scope) (i : Nat) (e : Expr) : Bool := fName (fun x => decide (N[i]? = some x) && stB fb sc x) e
def storsB (N : List Str) (fb : Str → Bool) (sc : Scope) : List Nat → List Expr → Bool
  | [], [] => true
  | i :: is, e :: es => storB N fb sc i e && storsB N fb sc is es
  | _, _ => false
def tgB (N : List Str) (fb : Str → Bool) (sc : Scope) : Tg → Expr → Bool
  | .one i, e => storB N fb sc i e
  | .many is, e => fTup (fun es => storsB N fb sc is es) e
def conB (d : D) (c : Const) : Bool := match d, c with
  | .non, .none => true
  | .bl b, .bool b' => b == b'
  | .int i, .int j => i == j
  | .str x, .str y => x == y
  | _, _ => false
def noComp (e : Expr) : Bool := match e with
  | .ListComp .. => false
  | .SetComp .. => false
  | .DictComp .. => false
  | _ => true

/-! ### the matcher -/
def binB (o : U2) (op : Operator) : Bool := match o, op with
  | .add, .Add => true
  | .sub, .Sub => true
  | .mul, .Mult => true
  | .fdiv, .FloorDiv => true
  | .mod, .Mod => true
  | .pow, .Pow => true
  | _, _ => false
def cmpB (o : U2) (op : CmpOp) : Bool := match o, op with
  | .eq, .Eq => true
  | .ne, .NotEq => true
  | .lt, .Lt => true
  | .le, .LtE => true
  | .gt, .Gt => true
  | .ge, .GtE => true
  | .inn, .In => true
  | .nin, .NotIn => true
  | _, _ => false
def noSet (e : Expr) : Bool := match e with
  | .Set .. => false
  | _ => true
def isName (e : Expr) : Bool := match e with
  | .Name _ _ => true
  | _ => false
def noSlice (e : Expr) : Bool := match e with
  | .Slice .. => false
  | _ => true
inductive U1K where
  | neg | fn (f : Str) | ty (f : Str) | isN | notN | isi (k : Kd) | max0 | join | no
def U1.kind : U1 → U1K
  | .neg => .neg
  | .len => .fn "len"
  | .sum => .fn "sum"
  | .abs => .fn "abs"
  | .all => .fn "all"
  | .list => .ty "list"
  | .tuple => .ty "tuple"
  | .int => .ty "int"
  | .isNone => .isN
  | .notNone => .notN
  | .isK k => .isi k
  | .max0 => .max0
  | .join => .join
  | .dict => .ty "dict"
  | .sort => .fn "sorted"
  | .lenSet | .sortSet | .sortD | .rev | .maxL | .isTrue | .notTrue => .no
/-- one operand: where it stands -/
def unB (sc : Scope) (o : U1) (p : Expr → Bool) (e : Expr) : Bool := match o.kind with
  | .neg => fUn (fun op x => (match op with | .USub => true | _ => false) && p x) e
  | .fn f => fCall1 (fun g x => g == f && glB sc g && noStar x && p x) e
  | .ty f => fCall1 (fun g x => g == f && glB sc g && noStar x && p x) e
  | .isN => fCmp (fun op x y => (match op with | .Is => true | _ => false) && fCon (fun c => match c with | .none => true | _ => false) y && p x) e
  | .notN => fCmp (fun op x y => (match op with | .IsNot => true | _ => false) && fCon (fun c => match c with | .none => true | _ => false) y && p x) e
  | .isi k => fCall2 (fun g x t => g == "isinstance" && glB sc g && noStar x && fName (fun n => n == Str.ofString k.nm && glB sc n) t && p x) e
  | .max0 => fCallK (fun g x n d => g == "max" && glB sc g && noStar x && n == some "default" && fCon (fun c => match c with | .int i => i == 0 | _ => false) d && p x) e
  | .join => fMeth1 (fun m s x => m == "join" && noStar x && fCon (fun c => match c with | .str z => z == "" | _ => false) s && p x) e
  | .no => false
def bin2B (sc : Scope) (o : U2) (p q : Expr → Bool) (e : Expr) : Bool := match o with
  | .idx => fSub (fun x y => noSlice y && p x && q y) e
  | .max => fCall2 (fun g x y => g == "max" && glB sc g && noStar x && noStar y && p x && q y) e
  | .min => fCall2 (fun g x y => g == "min" && glB sc g && noStar x && noStar y && p x && q y) e
  | .index => fMeth1 (fun m o x => m == "index" && isName o && noStar x && p o && q x) e
  | o => fBin (fun op x y => binB o op && p x && q y) e || fCmp (fun op x y => cmpB o op && noSet y && p x && q y) e
/-- what is walked -/
def itB (sc : Scope) (k : ItK) (p q : Expr → Bool) (b : E) (tup : Bool) (e : Expr) : Bool := match k with
  | .seq => (match b with | .nix => true | _ => false) && noSet e && p e
  | .chars => (match b with | .nix => true | _ => false) && noSet e && p e
  | .rng => (match b with | .nix => true | _ => false) && fCall1 (fun g x => g == "range" && glB sc g && noStar x && p x) e
  | .rng2 => fCall2 (fun g x y => g == "range" && glB sc g && noStar x && noStar y && p x && q y) e
  | .enum => (match b with | .nix => true | _ => false) && tup && fCall1 (fun g x => g == "enumerate" && glB sc g && noStar x && p x) e
  | .zip => tup && fCall2 (fun g x y => g == "zip" && glB sc g && noStar x && noStar y && p x && q y) e
  | .rev => (match b with | .nix => true | _ => false) && fCall1 (fun g x => g == "reversed" && glB sc g && noStar x && p x) e
  | _ => false
def optB (a : E) (p : Expr → Bool) (o : Option Expr) : Bool := match a, o with
  | .nix, none => true
  | .nix, some _ => false
  | _, some x => p x
  | _, none => false
def isNix : E → Bool
  | .nix => true
  | _ => false
def Tg.tup : Tg → Bool
  | .many _ => true
  | _ => false
def E.isB : E → Bool
  | .and _ _ | .or _ _ | .one _ => true
  | _ => false
mutual
def mE (T : Tab) (cs : List (Str × D)) (N : List Str) : E → Scope → Expr → Bool
  | .var i, sc, e => fName (slotB N sc i) e
  | .own i, sc, e => fName (slotB N sc i) e
  | .fz i, sc, e => fName (slotB N sc i) e
  | .mv i, sc, e => fName (slotB N sc i) e
  | .mut i, sc, e => fName (slotB N sc i) e
  | .lit d, _, e => fCon (conB d) e
  | .gl x d, sc, e => fName (fun y => y == x && glB sc y && plainN y && (cs.any fun p => p.1 == x && (match p.2, d with | .int i, .int j => i == j | .str a, .str b => a == b | _, _ => false))) e
  | .un o a, sc, e => unB sc o (mE T cs N a sc) e
  | .bin o a b, sc, e => bin2B sc o (mE T cs N a sc) (mE T cs N b sc) e
  | .sl a lo hi, sc, e => fSl (fun x l h => mE T cs N a sc x && optB lo (mE T cs N lo sc) l && optB hi (mE T cs N hi sc) h) e
  | .nix, _, _ => false
  | .chain o o' a b c, sc, e => fCmp2 (fun p p' x y z => cmpB o p && cmpB o' p' && noSet z && mE T cs N a sc x && mE T cs N b sc y && mE T cs N c sc z) e
  | .and a b, sc, e => fBool (fun op xs pos => (match op with | .And => true | _ => false) && b.isB && (match xs with | x :: y :: r => mE T cs N a sc x && mE T cs N b sc (.BoolOp .And (y :: r) pos) | _ => false)) e
  | .or a b, sc, e => fBool (fun op xs pos => (match op with | .Or => true | _ => false) && b.isB && (match xs with | x :: y :: r => mE T cs N a sc x && mE T cs N b sc (.BoolOp .Or (y :: r) pos) | _ => false)) e
  | .one a, sc, e => fBool (fun _ xs _ => match xs with | [x] => mE T cs N a sc x | _ => false) e
  | .not a, sc, e => fUn (fun op x => (match op with | .Not => true | _ => false) && mE T cs N a sc x) e
  | .ite _ _ _, _, _ => false
  | .nil, _, _ => false
  | .cons _ _, _, _ => false
  | .tup as, sc, e => fTup (mA T cs N as sc) e
  | .lst as, sc, e => fLst (mA T cs N as sc) e
  | .dic0, _, e => fDic (fun ks vs => ks.isEmpty && vs.isEmpty) e
  | .dic1 k v, sc, e => fDic (fun ks vs => match ks, vs with | [some x], [y] => mE T cs N k sc x && mE T cs N v sc y | _, _ => false) e
  | .dic2 k v k' v', sc, e => fDic (fun ks vs => match ks, vs with | [some x, some x'], [y, y'] => mE T cs N k sc x && mE T cs N v sc y && mE T cs N k' sc x' && mE T cs N v' sc y' | _, _ => false) e
  | .call f as, sc, e => fCall (fun g xs => glB sc g && plainN g && (match T.lookup f with | some F => F.name == g | none => false) && mA T cs N as sc xs) e
  | .lc own tg k a b c e, sc, ex => fLc (fun elt t it ifs scope => blkC N sc scope own && tgB N (fun x => scope.names.lookup x == some .cell) (relS scope sc) tg t && itB sc k (mE T cs N a sc) (mE T cs N b sc) b tg.tup it &&
      (tgL tg).all (fun i => (own.map (·.2)).contains i) && (match ifs with | [] => (match c with | .lit (.bl true) => true | _ => false) | [z] => mE T cs N c (relS scope sc) z | _ => false) && mE T cs N e (relS scope sc) elt) ex
  | .get d k x, sc, e => (match d with
    | .var i => fMt2 (fun m o y z => m == "get" && slotB N sc i o && mE T cs N k sc y && mE T cs N x sc z) e
    | .own i => fMt2 (fun m o y z => m == "get" && slotB N sc i o && mE T cs N k sc y && mE T cs N x sc z) e
    | _ => false)
  | .pop i, sc, e => fMt0 (fun m o => m == "pop" && slotB N sc i o) e
  | .popAt i k, sc, e => fMt1 (fun m o y => m == "pop" && slotB N sc i o && mE T cs N k sc y) e
  | .setdef i k x, sc, e => fMt2 (fun m o y z => m == "setdefault" && slotB N sc i o && mE T cs N k sc y && mE T cs N x sc z) e
  | .lend _ a, sc, e => mE T cs N a sc e
  | .fld _ _, _, _ => false
  | .isC _ _ _, _, _ => false
  | .mkf _ _ _, _, _ => false
  | .mkIs _ _ _, _, _ => false
def mA (T : Tab) (cs : List (Str × D)) (N : List Str) : E → Scope → List Expr → Bool
  | .nil, _, es => es.isEmpty
  | .cons a r, sc, es => match es with
    | x :: xs => noStar x && mE T cs N a sc x && mA T cs N r sc xs
    | [] => false
  | _, _, _ => false
end
end En
end

section
set_option Elab.async false
set_option linter.all false
set_option maxRecDepth 100000
set_option maxHeartbeats 4000000
namespace En
open PySem PySem.Spec L2
variable [Wd]

/-! ### small facts about the text -/
section
variable {X : Cx} {e : Expr} {es : List Expr} {pos : Pos}
theorem star_ok (h : noStar e = true) : starEach (e :: es) X.env = (false, eval e X.env) :: starEach es X.env := by
  cases e with
  | Starred => cases h
  | _ => rfl
theorem star_any : ∀ {es : List Expr}, es.all noStar = true → (backTo pos (starEach es X.env)).any (·.1) = false := by
  intro es
  induction es with
  | nil => intro _; rfl
  | cons e r ih =>
    intro h
    simp only [List.all_cons, Bool.and_eq_true] at h
    rw [star_ok h.1]
    show (false || (backTo pos (starEach r X.env)).any (·.1)) = false
    rw [ih h.2]; rfl
theorem noSet_fold (h : noSet e = true) : ∀ x, foldedSetIterable e X.env x = pure x := by
  intro x
  cases e with
  | Set => cases h
  | _ => rfl
theorem noSet_mark {op : CmpOp} (h : noSet e = true) : behindInMarks op e = false := by
  cases e with
  | Set => cases h
  | _ => rfl
theorem noSlice_ix (h : noSlice e = true) : PlainIx e := by
  intro o i
  cases e with
  | Slice => cases h
  | _ => rfl
theorem noComp_sw {l : Nat} {t : Option Expr} (h : noComp e = true) : swapsWith e t l X.env = pure false := by
  cases e with
  | ListComp => cases h
  | SetComp => cases h
  | DictComp => cases h
  | _ => rfl
end

/-! ### the module -/
def bnames : List Str := ["len", "sum", "abs", "all", "list", "tuple", "int", "isinstance", "str", "dict", "bool", "max", "min", "range", "enumerate", "zip", "reversed", "sorted", "set"]
structure ModOk (T : Tab) (cs : List (Str × D)) (C : Calls) (k : Nat) (P : Program) (w : World) (K : PySem.W.Frag) (mg : Str → Option Value) (base : Heap) (μ : Mo) : Prop where
  blt : ∀ x, x ∈ bnames → mg x = none
  gls : ∀ x d, (x, d) ∈ cs → ∃ u v, mg x = some u ∧ flatD d = some v ∧ RelV v u
  arg : ∀ f F, T.lookup f = some F → ∀ rs, C f rs ≠ .stuck → ∃ env0, argX F.pm rs = some env0 ∧ oneMu F.pm = true
  val : ∀ f rs r fin, C f rs = .ok r fin → r.1 = .sh ∨ r.1 = .fr
  exx : ∀ f F, T.lookup f = some F → ∀ rs x, C f rs = .exc x → F.pm.contains .mu = false
  fns : ∀ f F, T.lookup f = some F → ∃ fa fd ps, mg F.name = some (.ref fa) ∧ PySem.W.keepIn K (.ref fa) = true ∧ Binds K fd ps [] ∧ FnOk P w K mg base (L2.CX P w) k fa fd ps (spC μ (C f) F.pm)
structure Good (T : Tab) (cs : List (Str × D)) (C : Calls) (k : Nat) (N : List Str) (X : Cx) (μ : Mo) (fb : Str → Bool) (sc : Scope) : Prop where
  hN : X.N = N
  nd : N.Nodup
  hsc : X.env.scope = sc
  wd : X.w = Wd.wd
  calm : X.calm = true
  room : Room k X.A
  tk : Takes X μ.W
  po : PassesOwn (model X.prog X.w) X.A X.env X.xe
  fn : ∀ x, fb x = true → X.fn x = true
  mod : ModOk T cs C k X.prog X.w X.K X.mg X.base μ

section
variable {T : Tab} {cs : List (Str × D)} {C : Calls} {k : Nat} {N : List Str} {X : Cx} {μ : Mo} {fb : Str → Bool} {sc : Scope} {x : Str} {i : Nat}
theorem Good.un (g : Good T cs C k N X μ fb sc) : X.A.units + 200 < cLine := by have := g.room.un; omega
theorem Good.gl (g : Good T cs C k N X μ fb sc) (h : glB sc x = true) : Gl X x := by
  unfold Gl PySem.Env.kindOf
  rw [g.hsc]
  unfold glB at h
  split at h
  · assumption
  · cases h
theorem Good.vis (g : Good T cs C k N X μ fb sc) (h : visB sc x = true) : Vis X.env.scope x := by
  unfold Vis
  rw [g.hsc]
  unfold visB at h
  split at h
  · exact .inl (by assumption)
  · exact .inr (.inl (by assumption))
  · exact .inr (.inr (by assumption))
  · cases h
theorem plain_debug (h : plainN x = true) : (x == ("__debug__" : Str)) = false ∧ (x == ("__classdict__" : Str)) = false ∧ x ≠ "__name__" := by
  unfold plainN at h
  simp only [Bool.and_eq_true, Bool.not_eq_true'] at h
  exact ⟨h.1.1, h.1.2, fun z => by rw [z] at h; exact absurd h.2 (by decide)⟩
theorem Good.name (g : Good T cs C k N X μ fb sc) {pos : Pos} (h : slotB N sc i x = true) : PE X (.Name x pos) (tVar i) := by
  unfold slotB at h
  simp only [Bool.and_eq_true, decide_eq_true_eq] at h
  obtain ⟨d1, d2, _⟩ := plain_debug h.2
  exact pe_var (by rw [g.hN]; exact h.1.1) (g.vis h.1.2) d1 d2
theorem Good.stor (g : Good T cs C k N X μ fb sc) {e : Expr} (h : storB N fb sc i e = true) : PG X e (gName i) ∧ ∃ y pos, e = .Name y pos ∧ N[i]? = some y ∧ Loc X.env.scope y ∧ (X.fn y = true ∨ X.env.scope.names.lookup y = some .local) := by
  have h' := iName h
  clear h
  obtain ⟨y, pos, rfl, h⟩ := h'
  simp only [Bool.and_eq_true, decide_eq_true_eq] at h
  have hl : Loc X.env.scope y ∧ (X.fn y = true ∨ X.env.scope.names.lookup y = some .local) := by
    unfold L2.Loc
    rw [g.hsc]
    have h2 := h.2
    unfold stB at h2
    split at h2
    · exact ⟨.inl (by assumption), .inr (by assumption)⟩
    · exact ⟨.inr (by assumption), .inl (g.fn y h2)⟩
    · cases h2
  exact ⟨pg_name (by rw [g.hN]; exact g.nd) (by rw [g.hN]; exact h.1) hl.1 hl.2, y, pos, rfl, h.1, hl⟩
theorem Good.stors (g : Good T cs C k N X μ fb sc) : ∀ {is : List Nat} {es : List Expr}, storsB N fb sc is es = true → PGs X es (gsOf is) ∧ (assignEach es X.env).length = is.length ∧ (assignEach es X.env).findIdx? (·.1) = none := by
  intro is
  induction is with
  | nil => intro es h; cases es with
    | nil => exact ⟨pgs_nil, rfl, rfl⟩
    | cons => cases h
  | cons i is ih => intro es h; cases es with
    | nil => cases h
    | cons e es =>
      simp only [storsB, Bool.and_eq_true] at h
      obtain ⟨h1, y, pos, rfl, _⟩ := g.stor h.1
      obtain ⟨h2, l2, f2⟩ := ih h.2
      have ea : assignEach (.Name y pos :: es) X.env = (false, assign (.Name y pos) X.env) :: assignEach es X.env := rfl
      refine ⟨pgs_cons h1 h2 (by rw [ea]; rfl), by rw [ea, List.length_cons, l2, List.length_cons], ?_⟩
      rw [ea, List.findIdx?_cons, f2]; rfl
theorem Good.tg (g : Good T cs C k N X μ fb sc) {t : Tg} {e : Expr} (h : tgB N fb sc t e = true) : PG X e (gOf X.K t) := by
  cases t with
  | one i => exact (g.stor h).1
  | many is =>
    have h' := iTup h
    clear h
    obtain ⟨es, kk, pos, rfl, h⟩ := h'
    obtain ⟨h1, h2, h3⟩ := g.stors h
    exact ⟨fun pins s σ H v u Q I r q => by
      rcases q with q | q
      · exact (pg_tup g.calm h1 h2 h3).run pins s σ H v u Q I r q
      · exact (pg_unl g.calm h1 h2 h3).run pins s σ H v u Q I r q⟩
theorem Good.bn (g : Good T cs C k N X μ fb sc) (h : x ∈ bnames) : X.mg x = none := g.mod.blt x h

/-! ### the block of a comprehension -/
theorem Good.blk (g : Good T cs C k N X μ fb sc) {s : Shared} {H : Hp} {scope : Scope} {cl : List (Str × Addr)} {Ca : Addr} {fp : List Addr} :
    Good T cs C k N (X.blk s H scope (compEnvC scope cl Ca X.env) fp) μ.in (fun x => scope.names.lookup x == some .cell) (relS scope sc) where
  hN := g.hN
  nd := g.nd
  hsc := by
    show relabel scope X.env = relS scope sc
    rw [← g.hsc]; rfl
  wd := g.wd
  calm := g.calm
  room := g.room
  tk := takes0
  po := PassesOwn.never
  fn := fun x h => h
  mod := ⟨g.mod.blt, g.mod.gls, g.mod.arg, g.mod.val, g.mod.exx, g.mod.fns⟩
end

/-! ### one operand, two operands, in the text -/
section
variable {T : Tab} {cs : List (Str × D)} {C : Calls} {k : Nat} {N : List Str} {X : Cx} {μ : Mo} {fb : Str → Bool} {sc : Scope}
theorem un_sound (g : Good T cs C k N X μ fb sc) {o : U1} {a : E} {p : Expr → Bool} (ih : ∀ e, p e = true → PE X e (rdE μ C a)) {e : Expr} (h : unB sc o p e = true) :
    PE X e (rdE μ C (.un o a)) ∧ PT X e (rdT μ C (.un o a)) := by
  have viaF : ∀ {f : Str} {id : String}, fCall1 (fun g' x => g' == f && glB sc g' && noStar x && p x) e = true → f ∈ bnames → bootBuiltins f = some (.builtin id) → CallR X (.builtin id) (c1 o) → f ≠ "__name__" → (f == ("__debug__" : Str)) = false →
      PE X e (rdE μ C (.un o a)) ∧ PT X e (rdT μ C (.un o a)) := fun {f id} hh hb hv hr hn hd => by
    obtain ⟨f', fp, x, pos, rfl, h2⟩ := iCall1 hh
    simp only [Bool.and_eq_true, beq_iff_eq] at h2
    obtain ⟨⟨⟨rfl, hg⟩, hs⟩, hp⟩ := h2
    have hpe : PE X (.Call (.Name f' fp) [x] [] pos) (rdE μ C (.un o a)) := (pe_callB hr (g.gl hg) (g.bn hb) hv (pa_cons (ih x hp) pa_nil (star_ok hs)) hn hd (star_ok hs) rfl).imp fun σ H Q q => by
      obtain ⟨Ox, H0, M, env, ev, q⟩ := rd_un q
      exact ⟨Ox, H0, M, env, ev, PostG.imp q fun _ _ v H1 _ _ _ _ q => ⟨v, rfl, q⟩⟩
    exact ⟨hpe, (pt_val hpe).imp fun σ H Q q => rdT_val q⟩
  have viaT : ∀ {f : Str} {id : String}, fCall1 (fun g' x => g' == f && glB sc g' && noStar x && p x) e = true → f ∈ bnames → bootBuiltins f = some (.type id) → CallR X (.type id) (c1 o) → f ≠ "__name__" → (f == ("__debug__" : Str)) = false →
      PE X e (rdE μ C (.un o a)) ∧ PT X e (rdT μ C (.un o a)) := fun {f id} hh hb hv hr hn hd => by
    obtain ⟨f', fp, x, pos, rfl, h2⟩ := iCall1 hh
    simp only [Bool.and_eq_true, beq_iff_eq] at h2
    obtain ⟨⟨⟨rfl, hg⟩, hs⟩, hp⟩ := h2
    have hpe : PE X (.Call (.Name f' fp) [x] [] pos) (rdE μ C (.un o a)) := (pe_callTy hr (g.gl hg) (g.bn hb) hv (pa_cons (ih x hp) pa_nil (star_ok hs)) hn hd (star_ok hs) rfl).imp fun σ H Q q => by
      obtain ⟨Ox, H0, M, env, ev, q⟩ := rd_un q
      exact ⟨Ox, H0, M, env, ev, PostG.imp q fun _ _ v H1 _ _ _ _ q => ⟨v, rfl, q⟩⟩
    exact ⟨hpe, (pt_val hpe).imp fun σ H Q q => rdT_val q⟩
  cases o with
  | neg =>
    have h' := iUn h
    clear h
    obtain ⟨op, x, pos, rfl, h⟩ := h'
    cases op with
    | USub =>
      have hpe : PE X (.UnaryOp .USub x pos) (rdE μ C (.un .neg a)) := (pe_un ok_neg (ih x (by simpa using h))).imp fun σ H Q q => rd_un q
      exact ⟨hpe, (pt_val hpe).imp fun σ H Q q => rdT_val q⟩
    | _ => simp at h
  | len => exact viaF h (by decide) PySem.boot_len ok_len (by decide) (by decide)
  | sum => exact viaF h (by decide) (by decide +kernel) (ok_sum g.calm) (by decide) (by decide)
  | abs => exact viaF h (by decide) (by decide +kernel) ok_abs (by decide) (by decide)
  | all => exact viaF h (by decide) (by decide +kernel) (ok_all g.calm) (by decide) (by decide)
  | list => exact viaT h (by decide) (by decide +kernel) (ok_list g.calm) (by decide) (by decide)
  | dict => exact viaT h (by decide) (by decide +kernel) ok_dict (by decide) (by decide)
  | sort => exact viaF h (by decide) (by decide +kernel) ok_sort (by decide) (by decide)
  | tuple => exact viaT h (by decide) (by decide +kernel) ok_tuple (by decide) (by decide)
  | int => exact viaT h (by decide) (by decide +kernel) ok_int (by decide) (by decide)
  | isNone =>
    have h' := iCmp h
    clear h
    obtain ⟨op, x, y, pos, rfl, h⟩ := h'
    simp only [Bool.and_eq_true] at h
    obtain ⟨c, kk, cp, rfl, hc⟩ := iCon h.1.2
    cases op with
    | Is => cases c with
      | none => exact ⟨(pe_cmp (pc_isN (ih x h.2))).imp fun σ H Q q => by
          obtain ⟨Ox, H0, M, env, ev, q⟩ := rd_un q
          exact ⟨Ox, H0, M, env, ev, PostG.imp q fun _ _ v H1 _ _ _ _ q => ok_isN q⟩, (pt_cmp (pc_isN (ih x h.2))).imp fun σ H Q q => by
          obtain ⟨Ox, H0, M, env, ev, q⟩ := rd_un (show rdE μ C (.un .isNone a) σ H _ from q)
          exact ⟨Ox, H0, M, env, ev, PostG.imp q fun _ _ v H1 _ _ _ _ q => ok_isN q⟩⟩
      | _ => cases hc
    | _ => simp at h
  | notNone =>
    have h' := iCmp h
    clear h
    obtain ⟨op, x, y, pos, rfl, h⟩ := h'
    simp only [Bool.and_eq_true] at h
    obtain ⟨c, kk, cp, rfl, hc⟩ := iCon h.1.2
    cases op with
    | IsNot => cases c with
      | none => exact ⟨(pe_cmp (pc_notN (ih x h.2))).imp fun σ H Q q => by
          obtain ⟨Ox, H0, M, env, ev, q⟩ := rd_un q
          exact ⟨Ox, H0, M, env, ev, PostG.imp q fun _ _ v H1 _ _ _ _ q => ok_notN q⟩, (pt_cmp (pc_notN (ih x h.2))).imp fun σ H Q q => by
          obtain ⟨Ox, H0, M, env, ev, q⟩ := rd_un (show rdE μ C (.un .notNone a) σ H _ from q)
          exact ⟨Ox, H0, M, env, ev, PostG.imp q fun _ _ v H1 _ _ _ _ q => ok_notN q⟩⟩
      | _ => cases hc
    | _ => simp at h
  | isK kd =>
    have h' := iCall2 h
    clear h
    obtain ⟨f', fp, x, t, pos, rfl, h⟩ := h'
    simp only [Bool.and_eq_true, beq_iff_eq] at h
    obtain ⟨⟨⟨⟨rfl, hg⟩, hs⟩, ht⟩, hp⟩ := h
    have ht' := iName ht
    clear ht
    obtain ⟨n, np, rfl, ht⟩ := ht'
    simp only [Bool.and_eq_true, beq_iff_eq] at ht
    obtain ⟨rfl, hgn⟩ := ht
    have hb : (Str.ofString kd.nm) ∈ bnames := by cases kd <;> decide
    have hv : bootBuiltins (Str.ofString kd.nm) = some (.type kd.nm) := by cases kd <;> decide +kernel
    have hpe : PE X (.Call (.Name "isinstance" fp) [x, .Name (Str.ofString kd.nm) np] [] pos) (rdE μ C (.un (.isK kd) a)) :=
      (pe_callB (ok_isi kd) (g.gl hg) (g.bn (by decide)) (by decide +kernel) (pa_cons (ih x hp) (pa_cons (pe_bltn (v := .ty kd.nm) (g.gl hgn) (g.bn hb) hv rfl (by cases kd <;> decide) (by cases kd <;> decide)) pa_nil rfl) (star_ok hs)) (by decide) (by decide) (star_ok hs) rfl).imp fun σ H Q q => by
      obtain ⟨Ox, H0, M, env, ev, q⟩ := rd_un q
      exact ⟨Ox, H0, M, env, ev, PostG.imp q fun _ _ v H1 _ _ _ _ q => ⟨v, rfl, q⟩⟩
    exact ⟨hpe, (pt_val hpe).imp fun σ H Q q => rdT_val q⟩
  | max0 =>
    have h' := iCallK h
    clear h
    obtain ⟨f', fp, x, n, y, kp, pos, rfl, h⟩ := h'
    simp only [Bool.and_eq_true, beq_iff_eq] at h
    obtain ⟨⟨⟨⟨⟨rfl, hg⟩, hs⟩, rfl⟩, hc⟩, hp⟩ := h
    have hc' := iCon hc
    clear hc
    obtain ⟨c, kk, cp, rfl, hc⟩ := hc'
    cases c with
    | int z =>
      have hz : z = 0 := by simpa using hc
      subst hz
      have hpe : PE X (.Call (.Name "max" fp) [x] [⟨some "default", .Constant (.int 0) kk cp, kp⟩] pos) (rdE μ C (.un .max0 a)) :=
        (pe_callBK (ok_max0 g.calm g.un) (g.gl hg) (g.bn (by decide)) (by decide +kernel) (pa_cons (ih x hp) pa_nil (star_ok hs)) (pk_cons pe_int pk_nil) (by decide) (by decide) (by rw [star_ok hs]; rfl) (by rw [star_ok hs]; rfl) rfl rfl rfl).imp fun σ H Q q => by
        obtain ⟨Ox, H0, M, env, ev, q⟩ := rd_un q
        exact ⟨Ox, H0, M, env, ev, PostG.imp q fun _ _ v H1 _ _ _ _ q => ⟨v, rfl, rfl, q⟩⟩
      exact ⟨hpe, (pt_val hpe).imp fun σ H Q q => rdT_val q⟩
    | _ => simp at hc
  | join =>
    have h' := iMeth1 h
    clear h
    obtain ⟨s, m, apos, x, pos, rfl, hl, h⟩ := h'
    simp only [Bool.and_eq_true, beq_iff_eq] at h
    obtain ⟨⟨⟨rfl, hs⟩, hc⟩, hp⟩ := h
    have hc' := iCon hc
    clear hc
    obtain ⟨c, kk, cp, rfl, hc⟩ := hc'
    cases c with
    | str z =>
      have hz : z = "" := by simpa using hc
      subst hz
      have hpe : PE X (.Call (.Attribute (.Constant (.str "") kk cp) "join" apos) [x] [] pos) (rdE μ C (.un .join a)) :=
        (pe_m1 PySem.F.slot_str_join PySem.F.type_str_join ok_join pe_str (ih x hp) (star_ok hs) rfl hl).imp fun σ H Q q => by
        obtain ⟨Ox, H0, M, env, ev, q⟩ := rd_un q
        exact ⟨⟨_, rfl⟩, Ox, H0, M, env, ev, PostG.imp q fun _ _ v H1 _ _ _ _ q => ⟨by decide +kernel, v, rfl, q⟩⟩
      exact ⟨hpe, (pt_val hpe).imp fun σ H Q q => rdT_val q⟩
    | _ => simp at hc
  | lenSet => cases h
  | sortSet => cases h
  | sortD => cases h
  | rev => cases h
  | maxL => cases h
  | isTrue => cases h
  | notTrue => cases h
end
end En
end

section
set_option Elab.async false
set_option linter.all false
set_option maxRecDepth 100000
set_option maxHeartbeats 4000000
namespace En
open PySem PySem.Spec L2
variable [Wd]

section
variable {T : Tab} {cs : List (Str × D)} {C : Calls} {k : Nat} {N : List Str} {X : Cx} {μ : Mo} {fb : Str → Bool} {sc : Scope}
theorem cmp_ok (g : Good T cs C k N X μ fb sc) {o : U2} {op : CmpOp} (h : cmpB o op = true) : OpR X (compareOp op) (q2 o) := by
  have hu := g.un
  cases o <;> cases op <;> first
    | (cases h; done)
    | exact ok_eq hu
    | exact ok_ne hu
    | exact ok_lt
    | exact ok_le
    | exact ok_gt
    | exact ok_ge (by omega)
    | exact ok_in hu g.wd
    | exact ok_nin hu g.wd
theorem bin_ok {o : U2} {op : Operator} (h : binB o op = true) : OpR X (binaryOp op) (q2 o) := by
  cases o <;> cases op <;> first
    | (cases h; done)
    | exact ok_add
    | exact ok_sub
    | exact ok_mul
    | exact ok_fdiv
    | exact ok_mod
    | exact ok_pow
theorem bin_sound (g : Good T cs C k N X μ fb sc) {o : U2} {a b : E} {p q : Expr → Bool} (iha : ∀ e, p e = true → PE X e (rdE μ C a)) (ihb : ∀ e, q e = true → PE X e (rdE μ C b)) {e : Expr} (h : bin2B sc o p q e = true) :
    PE X e (rdE μ C (.bin o a b)) ∧ PT X e (rdT μ C (.bin o a b)) := by
  have viaC : ∀ {f : Str} {id : String}, fCall2 (fun g' x y => g' == f && glB sc g' && noStar x && noStar y && p x && q y) e = true → f ∈ bnames → bootBuiltins f = some (.builtin id) → CallR X (.builtin id) (c2 o) → f ≠ "__name__" → (f == ("__debug__" : Str)) = false →
      PE X e (rdE μ C (.bin o a b)) ∧ PT X e (rdT μ C (.bin o a b)) := fun {f id} hh hb hv hr hn hd => by
    obtain ⟨f', fp, x, y, pos, rfl, h2⟩ := iCall2 hh
    simp only [Bool.and_eq_true, beq_iff_eq] at h2
    obtain ⟨⟨⟨⟨⟨rfl, hg⟩, hs⟩, hs2⟩, hp⟩, hq⟩ := h2
    have hpe : PE X (.Call (.Name f' fp) [x, y] [] pos) (rdE μ C (.bin o a b)) := (pe_callB hr (g.gl hg) (g.bn hb) hv (pa_cons (iha x hp) (pa_cons (ihb y hq) pa_nil (star_ok hs2)) (star_ok hs)) hn hd (star_ok hs) (by rw [star_ok hs2]; rfl)).imp fun σ H Q z => by
      obtain ⟨Ox, H0, M, env, ev, z⟩ := rd_bin z
      refine ⟨Ox, H0, M, env, ev, PostG.imp z fun _ _ v H1 _ _ _ _ z => ?_⟩
      obtain ⟨Ox, H0, M, env, ev, z⟩ := z
      exact ⟨Ox, H0, M, env, ev, PostG.imp z fun _ _ w H2 _ _ _ _ z => ⟨v, w, rfl, z⟩⟩
    exact ⟨hpe, (pt_val hpe).imp fun σ H Q z => rdT_val z⟩
  have viaO : (fBin (fun op x y => binB o op && p x && q y) e || fCmp (fun op x y => cmpB o op && noSet y && p x && q y) e) = true → PE X e (rdE μ C (.bin o a b)) ∧ PT X e (rdT μ C (.bin o a b)) := fun hh => by
    rcases Bool.or_eq_true _ _ ▸ hh with hh | hh
    · obtain ⟨op, x, y, pos, rfl, h2⟩ := iBin hh
      simp only [Bool.and_eq_true] at h2
      have hpe : PE X (.BinOp x op y pos) (rdE μ C (.bin o a b)) := (pe_op (bin_ok h2.1.1) (iha x h2.1.2) (ihb y h2.2)).imp fun σ H Q z => rd_bin z
      exact ⟨hpe, (pt_val hpe).imp fun σ H Q z => rdT_val z⟩
    · obtain ⟨op, x, y, pos, rfl, h2⟩ := iCmp hh
      simp only [Bool.and_eq_true] at h2
      obtain ⟨⟨⟨h3, h4⟩, h5⟩, h6⟩ := h2
      exact ⟨(pe_cmpR (cmp_ok g h3) (iha x h5) (ihb y h6) (noSet_mark h4)).imp fun σ H Q z => rd_bin z, (pt_cmpR (cmp_ok g h3) (iha x h5) (ihb y h6) (noSet_mark h4)).imp fun σ H Q z => rd_bin (show rdE μ C (.bin o a b) σ H _ from z)⟩
  cases o with
  | idx =>
    obtain ⟨x, y, pos, rfl, h2⟩ := iSub h
    simp only [Bool.and_eq_true] at h2
    have hpe : PE X (.Subscript x y pos) (rdE μ C (.bin .idx a b)) := (pe_ix (ok_idx g.un g.wd) (iha x h2.1.2) (ihb y h2.2) (noSlice_ix h2.1.1)).imp fun σ H Q z => rd_bin z
    exact ⟨hpe, (pt_val hpe).imp fun σ H Q z => rdT_val z⟩
  | max => exact viaC h (by decide) (by decide +kernel) (ok_max g.calm) (by decide) (by decide)
  | min => exact viaC h (by decide) (by decide +kernel) (ok_min g.calm) (by decide) (by decide)
  | index =>
    obtain ⟨o, mm, apos, x, pos, rfl, hl, h2⟩ := iMeth1 h
    simp only [Bool.and_eq_true, beq_iff_eq] at h2
    obtain ⟨⟨⟨⟨rfl, hn⟩, hs⟩, hp⟩, hq⟩ := h2
    cases o with
    | Name y yp =>
      have hpe : PE X (.Call (.Attribute (.Name y yp) "index" apos) [x] [] pos) (rdE μ C (.bin .index a b)) :=
        (pe_bm PySem.F.plainAttrs_list PySem.F.slot_list_index PySem.F.type_list_index ok_index (iha _ hp) (pa_cons (ihb x hq) pa_nil (star_ok hs)) rfl (by rw [star_ok hs]; rfl) hl (star_ok hs) rfl).imp fun σ H Q z => by
        obtain ⟨Ox, H0, M, env, ev, z⟩ := rd_bin2 z
        refine ⟨Ox, H0, M, env, ev, PostG.imp z fun _ _ v H1 _ _ _ _ z => ?_⟩
        obtain ⟨z1, z2⟩ := z
        obtain ⟨p, vs, rfl, hp⟩ := z1 rfl
        obtain ⟨Ox, H0, M, env, ev, z⟩ := z2
        exact ⟨.inl ⟨rfl, vs, .inl hp⟩, Ox, H0, M, env, ev, PostG.imp z fun _ _ w H2 _ _ _ _ z => ⟨w, rfl, z⟩⟩
      exact ⟨hpe, (pt_val hpe).imp fun σ H Q z => rdT_val z⟩
    | _ => cases hn
  | _ => exact viaO h

/-! ### what is walked, in the text -/
theorem nix_of {b : E} (h : (match b with | .nix => true | _ => false) = true) : b = .nix := by
  cases b <;> first | rfl | (cases h; done)
theorem it_sound (g : Good T cs C k N X μ fb sc) {kd : ItK} {a b : E} {p q : Expr → Bool} (iha : ∀ e, p e = true → PE X e (rdE μ C a)) (ihb : ∀ e, q e = true → PE X e (rdE μ C b)) {tup : Bool} {tg e : Expr} (htg : tup = true → ∃ es kk tp, tg = .Tuple es kk tp)
    (h : itB sc kd p q b tup e = true) : PI X tg e (rdI μ C kd a b) ∧ ∀ x, foldedSetIterable e X.env x = pure x := by
  cases kd with
  | seq =>
    simp only [itB, Bool.and_eq_true] at h
    obtain ⟨⟨hb, hn⟩, hp⟩ := h
    have := nix_of hb
    subst this
    exact ⟨((pi_list (iha e hp)).or (pi_tup (iha e hp))).imp fun σ H R z => rd_seq z, noSet_fold hn⟩
  | chars =>
    simp only [itB, Bool.and_eq_true] at h
    obtain ⟨⟨hb, hn⟩, hp⟩ := h
    have := nix_of hb
    subst this
    exact ⟨(pi_str (iha e hp)).imp fun σ H R z => rd_chars z, noSet_fold hn⟩
  | rng =>
    simp only [itB, Bool.and_eq_true] at h
    obtain ⟨hb, hh⟩ := h
    have := nix_of hb
    subst this
    obtain ⟨f', fp, x, pos, rfl, h2⟩ := iCall1 hh
    simp only [Bool.and_eq_true, beq_iff_eq] at h2
    obtain ⟨⟨⟨rfl, hg⟩, hs⟩, hp⟩ := h2
    exact ⟨(pi_range1 (g.gl hg) (g.bn (by decide)) (pa_cons (iha x hp) pa_nil (star_ok hs)) (star_ok hs)).imp fun σ H R z => rd_rng z, fun _ => rfl⟩
  | rng2 =>
    obtain ⟨f', fp, x, y, pos, rfl, h2⟩ := iCall2 h
    simp only [Bool.and_eq_true, beq_iff_eq] at h2
    obtain ⟨⟨⟨⟨⟨rfl, hg⟩, hs⟩, hs2⟩, hp⟩, hq⟩ := h2
    exact ⟨(pi_range2 (g.gl hg) (g.bn (by decide)) (pa_cons (iha x hp) (pa_cons (ihb y hq) pa_nil (star_ok hs2)) (star_ok hs)) (by rw [star_ok hs, star_ok hs2]; rfl) (star_ok hs2)).imp fun σ H R z => rd_rng2 z, fun _ => rfl⟩
  | enum =>
    simp only [itB, Bool.and_eq_true] at h
    obtain ⟨⟨hb, ht⟩, hh⟩ := h
    have := nix_of hb
    subst this
    obtain ⟨es, kk, tp, rfl⟩ := htg ht
    obtain ⟨f', fp, x, pos, rfl, h2⟩ := iCall1 hh
    simp only [Bool.and_eq_true, beq_iff_eq] at h2
    obtain ⟨⟨⟨rfl, hg⟩, hs⟩, hp⟩ := h2
    exact ⟨(pi_enum (g.gl hg) (g.bn (by decide)) (pa_cons (iha x hp) pa_nil (star_ok hs)) (star_ok hs)).imp fun σ H R z => rd_enum z, fun _ => rfl⟩
  | zip =>
    simp only [itB, Bool.and_eq_true] at h
    obtain ⟨ht, hh⟩ := h
    obtain ⟨es, kk, tp, rfl⟩ := htg ht
    obtain ⟨f', fp, x, y, pos, rfl, h2⟩ := iCall2 hh
    simp only [Bool.and_eq_true, beq_iff_eq] at h2
    obtain ⟨⟨⟨⟨⟨rfl, hg⟩, hs⟩, hs2⟩, hp⟩, hq⟩ := h2
    exact ⟨(RZ.pi_zipA (g.gl hg) (g.bn (by decide)) (pa_cons (iha x hp) (pa_cons (ihb y hq) pa_nil (star_ok hs2)) (star_ok hs)) (star_ok hs) (by rw [star_ok hs2]; rfl)).imp fun σ H R z => rd_zip z, fun _ => rfl⟩
  | rev =>
    simp only [itB, Bool.and_eq_true] at h
    obtain ⟨hb, hh⟩ := h
    have := nix_of hb
    subst this
    obtain ⟨f', fp, x, pos, rfl, h2⟩ := iCall1 hh
    simp only [Bool.and_eq_true, beq_iff_eq] at h2
    obtain ⟨⟨⟨rfl, hg⟩, hs⟩, hp⟩ := h2
    exact ⟨(pi_reversed (g.gl hg) (g.bn (by decide)) (pa_cons (iha x hp) pa_nil (star_ok hs)) (star_ok hs)).imp fun σ H R z => rd_rev z, fun _ => rfl⟩
  | _ => cases h
theorem tup_tg {t : Tg} {e : Expr} (h : tgB N fb sc t e = true) (ht : t.tup = true) : ∃ es kk tp, e = .Tuple es kk tp := by
  cases t with
  | one i => cases ht
  | many is => obtain ⟨es, kk, tp, rfl, _⟩ := iTup h; exact ⟨es, kk, tp, rfl⟩
end

/-! ### every expression -/
structure Snd (T : Tab) (cs : List (Str × D)) (C : Calls) (k : Nat) (N : List Str) (a : E) (X : Cx) (μ : Mo) (sc : Scope) : Prop where
  pe : ∀ e, mE T cs N a sc e = true → PE X e (rdE μ C a)
  pt : ∀ e, mE T cs N a sc e = true → PT X e (rdT μ C a)
  pw : a.isB = true → ∀ e, mE T cs N a sc e = true → PW X e (rdT μ C a)
  pa : ∀ es, mA T cs N a sc es = true → PA X es (rdA μ C a) ∧ es.all noStar = true

section
variable {T : Tab} {cs : List (Str × D)} {C : Calls} {k : Nat} {N : List Str}
theorem no_args {a : E} {X : Cx} {μ : Mo} {sc : Scope} (h : ∀ es, mA T cs N a sc es = false) : ∀ es, mA T cs N a sc es = true → PA X es (rdA μ C a) ∧ es.all noStar = true := fun es q => by rw [h es] at q; cases q
theorem snd_no {a : E} {X : Cx} {μ : Mo} {sc : Scope} (h : ∀ e, mE T cs N a sc e = false) (hb : a.isB = false) (h2 : ∀ es, mA T cs N a sc es = false) : Snd T cs C k N a X μ sc :=
  ⟨fun e q => (by rw [h e] at q; cases q), fun e q => (by rw [h e] at q; cases q), fun q => (by rw [hb] at q; cases q), no_args h2⟩
theorem optB_ok {X : Cx} {μ : Mo} {sc : Scope} {a : E} (ih : Snd T cs C k N a X μ sc) {o : Option Expr} (h : optB a (mE T cs N a sc) o = true) : PO X o (rdO μ C a) := by
  cases a with
  | nix => cases o with
    | none => exact po_none
    | some x => cases h
  | _ => cases o with
    | none => cases h
    | some x => exact po_some (ih.pe x h)
/-- a test by its value, where the text has no form of its own -/
theorem pt_of {X : Cx} {e : Expr} {μ : Mo} {a : E} (h : PE X e (rdE μ C a)) (he : ∀ whole, isTrue e X.env whole = (do let v ← whole; standAt e.pos; holding [v] (truthy v))) : PT X e (rdT μ C a) := (pt_val h he).imp fun σ H Q z => rdT_val z
theorem soundE (a : E) : ∀ (X : Cx) (μ : Mo) (fb : Str → Bool) (sc : Scope), Good T cs C k N X μ fb sc → Snd T cs C k N a X μ sc := by
  induction a with
  | var i =>
    intro X μ fb sc g
    have pe : ∀ e, mE T cs N (.var i) sc e = true → ∃ x pos, e = .Name x pos ∧ PE X e (rdE μ C (.var i)) := fun e h => by
      obtain ⟨x, pos, rfl, h2⟩ := iName h
      exact ⟨x, pos, rfl, (g.name h2).imp fun σ H Q z => rd_var z⟩
    exact ⟨fun e h => let ⟨_, _, _, q⟩ := pe e h; q, fun e h => let ⟨_, _, z, q⟩ := pe e h; pt_of q (by rw [z]; intro _; rfl), (fun z => nomatch z), no_args fun _ => rfl⟩
  | own i =>
    intro X μ fb sc g
    have pe : ∀ e, mE T cs N (.own i) sc e = true → ∃ x pos, e = .Name x pos ∧ PE X e (rdE μ C (.own i)) := fun e h => by
      obtain ⟨x, pos, rfl, h2⟩ := iName h
      exact ⟨x, pos, rfl, (g.name h2).imp fun σ H Q z => rd_own z⟩
    exact ⟨fun e h => let ⟨_, _, _, q⟩ := pe e h; q, fun e h => let ⟨_, _, z, q⟩ := pe e h; pt_of q (by rw [z]; intro _; rfl), (fun z => nomatch z), no_args fun _ => rfl⟩
  | fz i =>
    intro X μ fb sc g
    have pe : ∀ e, mE T cs N (.fz i) sc e = true → ∃ x pos, e = .Name x pos ∧ PE X e (rdE μ C (.fz i)) := fun e h => by
      obtain ⟨x, pos, rfl, h2⟩ := iName h
      exact ⟨x, pos, rfl, (g.name h2).imp fun σ H Q z => rd_fz z⟩
    exact ⟨fun e h => let ⟨_, _, _, q⟩ := pe e h; q, fun e h => let ⟨_, _, z, q⟩ := pe e h; pt_of q (by rw [z]; intro _; rfl), (fun z => nomatch z), no_args fun _ => rfl⟩
  | mv i =>
    intro X μ fb sc g
    have pe : ∀ e, mE T cs N (.mv i) sc e = true → ∃ x pos, e = .Name x pos ∧ PE X e (rdE μ C (.mv i)) := fun e h => by
      obtain ⟨x, pos, rfl, h2⟩ := iName h
      exact ⟨x, pos, rfl, (g.name h2).imp fun σ H Q z => rd_mv z⟩
    exact ⟨fun e h => let ⟨_, _, _, q⟩ := pe e h; q, fun e h => let ⟨_, _, z, q⟩ := pe e h; pt_of q (by rw [z]; intro _; rfl), (fun z => nomatch z), no_args fun _ => rfl⟩
  | «mut» i =>
    intro X μ fb sc g
    have pe : ∀ e, mE T cs N (.mut i) sc e = true → ∃ x pos, e = .Name x pos ∧ PE X e (rdE μ C (.mut i)) := fun e h => by
      obtain ⟨x, pos, rfl, h2⟩ := iName h
      exact ⟨x, pos, rfl, (g.name h2).imp fun σ H Q z => rd_mut z⟩
    exact ⟨fun e h => let ⟨_, _, _, q⟩ := pe e h; q, fun e h => let ⟨_, _, z, q⟩ := pe e h; pt_of q (by rw [z]; intro _; rfl), (fun z => nomatch z), no_args fun _ => rfl⟩
  | lit d =>
    intro X μ fb sc g
    have pe : ∀ e, mE T cs N (.lit d) sc e = true → ∃ c kk pos, e = .Constant c kk pos ∧ PE X e (rdE μ C (.lit d)) := fun e h => by
      obtain ⟨c, kk, pos, rfl, h2⟩ := iCon h
      refine ⟨c, kk, pos, rfl, ?_⟩
      cases d <;> cases c <;> first
        | (cases h2; done)
        | exact pe_non.imp fun σ H Q z => rd_lit rfl z
        | (have := eq_of_beq h2; subst this; exact pe_bl.imp fun σ H Q z => rd_lit rfl z)
        | (have := eq_of_beq h2; subst this; exact pe_int.imp fun σ H Q z => rd_lit rfl z)
        | (have := eq_of_beq h2; subst this; exact pe_str.imp fun σ H Q z => rd_lit rfl z)
    exact ⟨fun e h => let ⟨_, _, _, _, q⟩ := pe e h; q, fun e h => let ⟨_, _, _, z, q⟩ := pe e h; pt_of q (by rw [z]; intro _; rfl), (fun z => nomatch z), no_args fun _ => rfl⟩
  | gl x d =>
    intro X μ fb sc g
    have pe : ∀ e, mE T cs N (.gl x d) sc e = true → ∃ x pos, e = .Name x pos ∧ PE X e (rdE μ C (.gl x d)) := fun e h => by
      obtain ⟨y, pos, rfl, h2⟩ := iName h
      simp only [Bool.and_eq_true, beq_iff_eq] at h2
      obtain ⟨⟨⟨rfl, hg⟩, hp⟩, hc⟩ := h2
      obtain ⟨⟨y', d'⟩, hm, hc⟩ := List.any_eq_true.mp hc
      simp only [Bool.and_eq_true, beq_iff_eq] at hc
      obtain ⟨rfl, hc⟩ := hc
      have hd : d' = d := by
        cases d' <;> cases d <;> first | (cases hc; done) | (have := eq_of_beq hc; rw [this])
      subst hd
      obtain ⟨u, v, hu, hv, hr⟩ := g.mod.gls _ _ hm
      exact ⟨_, pos, rfl, (pe_glob (g.gl hg) hu hr (plain_debug hp).1).imp fun σ H Q z => rd_gl hv z⟩
    exact ⟨fun e h => let ⟨_, _, _, q⟩ := pe e h; q, fun e h => let ⟨_, _, z, q⟩ := pe e h; pt_of q (by rw [z]; intro _; rfl), (fun z => nomatch z), no_args fun _ => rfl⟩
  | un o a ih =>
    intro X μ fb sc g
    have ia := ih X μ fb sc g
    exact ⟨fun e h => (un_sound g ia.pe h).1, fun e h => (un_sound g ia.pe h).2, (fun z => nomatch z), no_args fun _ => rfl⟩
  | bin o a b iha ihb =>
    intro X μ fb sc g
    have ia := iha X μ fb sc g
    have ib := ihb X μ fb sc g
    exact ⟨fun e h => (bin_sound g ia.pe ib.pe h).1, fun e h => (bin_sound g ia.pe ib.pe h).2, (fun z => nomatch z), no_args fun _ => rfl⟩
  | sl a lo hi iha ihl ihh =>
    intro X μ fb sc g
    have ia := iha X μ fb sc g
    have il := ihl X μ fb sc g
    have ih := ihh X μ fb sc g
    have pe : ∀ e, mE T cs N (.sl a lo hi) sc e = true → ∃ x y pos, e = .Subscript x y pos ∧ PE X e (rdE μ C (.sl a lo hi)) := fun e h => by
      obtain ⟨x, l, hh, p2, pos, rfl, h2⟩ := iSl h
      simp only [Bool.and_eq_true] at h2
      exact ⟨_, _, _, rfl, (pe_slice ok_sl (ia.pe x h2.1.1) (optB_ok il h2.1.2) (optB_ok ih h2.2)).imp fun σ H Q z => rd_sl z⟩
    exact ⟨fun e h => let ⟨_, _, _, _, q⟩ := pe e h; q, fun e h => let ⟨_, _, _, z, q⟩ := pe e h; pt_of q (by rw [z]; intro _; rfl), (fun z => nomatch z), no_args fun _ => rfl⟩
  | nix => intro X μ fb sc g; exact snd_no (fun _ => rfl) rfl fun _ => rfl
  | chain o o' a b c iha ihb ihc =>
    intro X μ fb sc g
    have ia := iha X μ fb sc g
    have ib := ihb X μ fb sc g
    have ic := ihc X μ fb sc g
    have both : ∀ e, mE T cs N (.chain o o' a b c) sc e = true → PE X e (rdE μ C (.chain o o' a b c)) ∧ PT X e (rdT μ C (.chain o o' a b c)) := fun e h => by
      obtain ⟨p, p', x, y, z, pos, rfl, h2⟩ := iCmp2 h
      simp only [Bool.and_eq_true] at h2
      obtain ⟨⟨⟨⟨⟨h3, h4⟩, h5⟩, h6⟩, h7⟩, h8⟩ := h2
      have hm : lastMarks [p, p'] [y, z] = false := noSet_mark h5
      exact ⟨(pe_chain (cmp_ok g h3) (cmp_ok g h4) (ia.pe x h6) (ib.pe y h7) (ic.pe z h8) hm).imp fun σ H Q q => rd_chain q, (pt_chain (cmp_ok g h3) (cmp_ok g h4) (ia.pe x h6) (ib.pe y h7) (ic.pe z h8) hm).imp fun σ H Q q => rd_chain (show rdE μ C (.chain o o' a b c) σ H _ from q)⟩
    exact ⟨fun e h => (both e h).1, fun e h => (both e h).2, (fun z => nomatch z), no_args fun _ => rfl⟩
  | and a b iha ihb =>
    intro X μ fb sc g
    have ia := iha X μ fb sc g
    have ib := ihb X μ fb sc g
    have both : ∀ e, mE T cs N (.and a b) sc e = true → PE X e (rdE μ C (.and a b)) ∧ PW X e (rdT μ C (.and a b)) := fun e h => by
      obtain ⟨op, xs, pos, rfl, h2⟩ := iBool h
      simp only [Bool.and_eq_true] at h2
      obtain ⟨⟨ho, hb⟩, hx⟩ := h2
      cases op with
      | And =>
        match xs, hx with
        | x :: y :: r, hx =>
          simp only [Bool.and_eq_true] at hx
          exact ⟨(pe_and (ia.pe x hx.1) (ib.pe _ hx.2)).imp fun σ H Q z => rd_andV z, (pw_and (ia.pt x hx.1) (ib.pw hb _ hx.2)).imp fun σ H Q z => rdT_and z⟩
      | Or => cases ho
    exact ⟨fun e h => (both e h).1, fun e h => (both e h).2.pt, fun _ e h => (both e h).2, no_args fun _ => rfl⟩
  | or a b iha ihb =>
    intro X μ fb sc g
    have ia := iha X μ fb sc g
    have ib := ihb X μ fb sc g
    have both : ∀ e, mE T cs N (.or a b) sc e = true → PE X e (rdE μ C (.or a b)) ∧ PW X e (rdT μ C (.or a b)) := fun e h => by
      obtain ⟨op, xs, pos, rfl, h2⟩ := iBool h
      simp only [Bool.and_eq_true] at h2
      obtain ⟨⟨ho, hb⟩, hx⟩ := h2
      cases op with
      | Or =>
        match xs, hx with
        | x :: y :: r, hx =>
          simp only [Bool.and_eq_true] at hx
          exact ⟨(pe_or (ia.pe x hx.1) (ib.pe _ hx.2)).imp fun σ H Q z => rd_orV z, (pw_or (ia.pt x hx.1) (ib.pw hb _ hx.2)).imp fun σ H Q z => rdT_or z⟩
      | And => cases ho
    exact ⟨fun e h => (both e h).1, fun e h => (both e h).2.pt, fun _ e h => (both e h).2, no_args fun _ => rfl⟩
  | one a ih =>
    intro X μ fb sc g
    have ia := ih X μ fb sc g
    have both : ∀ e, mE T cs N (.one a) sc e = true → PE X e (rdE μ C (.one a)) ∧ PW X e (rdT μ C (.one a)) := fun e h => by
      obtain ⟨op, xs, pos, rfl, h2⟩ := iBool h
      match xs, h2 with
      | [x], hx =>
        refine ⟨(pe_one (ia.pe x hx)).imp fun σ H Q z => rd_one z, ?_⟩
        cases op with
        | And => exact (pw_and1 (ia.pt x hx)).imp fun σ H Q z => rdT_one z
        | Or => exact (pw_or1 (ia.pt x hx)).imp fun σ H Q z => rdT_one z
    exact ⟨fun e h => (both e h).1, fun e h => (both e h).2.pt, fun _ e h => (both e h).2, no_args fun _ => rfl⟩
  | not a ih =>
    intro X μ fb sc g
    have ia := ih X μ fb sc g
    have both : ∀ e, mE T cs N (.not a) sc e = true → PE X e (rdE μ C (.not a)) ∧ PT X e (rdT μ C (.not a)) := fun e h => by
      obtain ⟨op, x, pos, rfl, h2⟩ := iUn h
      cases op with
      | Not =>
        have h3 : mE T cs N a sc x = true := by simpa using h2
        exact ⟨(pe_not (ia.pe x h3)).imp fun σ H Q z => rd_notV z, (pt_not (ia.pt x h3)).imp fun σ H Q z => rdT_not z⟩
      | _ => simp at h2
    exact ⟨fun e h => (both e h).1, fun e h => (both e h).2, (fun z => nomatch z), no_args fun _ => rfl⟩
  | ite c a b ihc iha ihb => intro X μ fb sc g; exact snd_no (fun _ => rfl) rfl fun _ => rfl
  | nil => intro X μ fb sc g; exact ⟨(fun e h => nomatch h), (fun e h => nomatch h), (fun z => nomatch z), fun es h => by
      cases es with
      | nil => exact ⟨pa_nil.imp fun σ H Q z => rd_nil z, rfl⟩
      | cons => cases h⟩
  | cons a r iha ihr =>
    intro X μ fb sc g
    have ia := iha X μ fb sc g
    have ir := ihr X μ fb sc g
    exact ⟨(fun e h => nomatch h), (fun e h => nomatch h), (fun z => nomatch z), fun es h => by
      cases es with
      | nil => cases h
      | cons x xs =>
        simp only [mA, Bool.and_eq_true] at h
        obtain ⟨p, q⟩ := ir.pa xs h.2
        exact ⟨(pa_cons (ia.pe x h.1.2) p (star_ok h.1.1)).imp fun σ H Q z => rd_cons z, by rw [List.all_cons, h.1.1, q]; rfl⟩⟩
  | tup a ih =>
    intro X μ fb sc g
    have ia := ih X μ fb sc g
    have pe : ∀ e, mE T cs N (.tup a) sc e = true → ∃ es kk pos, e = .Tuple es kk pos ∧ PE X e (rdE μ C (.tup a)) := fun e h => by
      obtain ⟨es, kk, pos, rfl, h2⟩ := iTup h
      exact ⟨_, _, _, rfl, (pe_tup (ia.pa es h2).1).imp fun σ H Q z => rd_tup z⟩
    exact ⟨fun e h => let ⟨_, _, _, _, q⟩ := pe e h; q, fun e h => let ⟨_, _, _, z, q⟩ := pe e h; pt_of q (by rw [z]; intro _; rfl), (fun z => nomatch z), no_args fun _ => rfl⟩
  | lst a ih =>
    intro X μ fb sc g
    have ia := ih X μ fb sc g
    have pe : ∀ e, mE T cs N (.lst a) sc e = true → ∃ es pos, e = .List es pos ∧ PE X e (rdE μ C (.lst a)) := fun e h => by
      obtain ⟨es, pos, rfl, h2⟩ := iLst h
      exact ⟨_, _, rfl, (pe_lst (ia.pa es h2).1).imp fun σ H Q z => rd_lst z⟩
    exact ⟨fun e h => let ⟨_, _, _, q⟩ := pe e h; q, fun e h => let ⟨_, _, z, q⟩ := pe e h; pt_of q (by rw [z]; intro _; rfl), (fun z => nomatch z), no_args fun _ => rfl⟩
  | dic0 =>
    intro X μ fb sc g
    have pe : ∀ e, mE T cs N .dic0 sc e = true → ∃ ks vs pos, e = .Dict ks vs pos ∧ PE X e (rdE μ C .dic0) := fun e h => by
      obtain ⟨ks, vs, pos, rfl, h2⟩ := iDic h
      cases ks with
      | cons => cases h2
      | nil => cases vs with
        | cons => cases h2
        | nil => exact ⟨_, _, _, rfl, pe_dnewK.imp fun σ H Q z => rd_dic0 z⟩
    exact ⟨fun e h => let ⟨_, _, _, _, q⟩ := pe e h; q, fun e h => let ⟨_, _, _, z, q⟩ := pe e h; pt_of q (by rw [z]; intro _; rfl), (fun z => nomatch z), no_args fun _ => rfl⟩
  | dic1 a b iha ihb =>
    intro X μ fb sc g
    have ia := iha X μ fb sc g
    have ib := ihb X μ fb sc g
    have pe : ∀ e, mE T cs N (.dic1 a b) sc e = true → ∃ ks vs pos, e = .Dict ks vs pos ∧ PE X e (rdE μ C (.dic1 a b)) := fun e h => by
      obtain ⟨ks, vs, pos, rfl, h2⟩ := iDic h
      match ks, vs, h2 with
      | [some x], [y], h2 =>
        simp only [Bool.and_eq_true] at h2
        exact ⟨_, _, _, rfl, (pe_disp (pps_cons (ia.pe x h2.1) (ib.pe y h2.2) pps_nil) rfl rfl (by simp) (by simp)).imp fun σ H Q z => rd_dic1 z⟩
    exact ⟨fun e h => let ⟨_, _, _, _, q⟩ := pe e h; q, fun e h => let ⟨_, _, _, z, q⟩ := pe e h; pt_of q (by rw [z]; intro _; rfl), (fun z => nomatch z), no_args fun _ => rfl⟩
  | dic2 a b c d iha ihb ihc ihd =>
    intro X μ fb sc g
    have ia := iha X μ fb sc g
    have ib := ihb X μ fb sc g
    have ic := ihc X μ fb sc g
    have id := ihd X μ fb sc g
    have pe : ∀ e, mE T cs N (.dic2 a b c d) sc e = true → ∃ ks vs pos, e = .Dict ks vs pos ∧ PE X e (rdE μ C (.dic2 a b c d)) := fun e h => by
      obtain ⟨ks, vs, pos, rfl, h2⟩ := iDic h
      match ks, vs, h2 with
      | [some x, some x'], [y, y'], h2 =>
        simp only [Bool.and_eq_true] at h2
        exact ⟨_, _, _, rfl, (pe_disp (pps_cons (ia.pe x h2.1.1.1) (ib.pe y h2.1.1.2) (pps_cons (ic.pe x' h2.1.2) (id.pe y' h2.2) pps_nil)) rfl rfl (by simp) (by simp)).imp fun σ H Q z => rd_dic2 z⟩
    exact ⟨fun e h => let ⟨_, _, _, _, q⟩ := pe e h; q, fun e h => let ⟨_, _, _, z, q⟩ := pe e h; pt_of q (by rw [z]; intro _; rfl), (fun z => nomatch z), no_args fun _ => rfl⟩
  | call f a ih =>
    intro X μ fb sc g
    have ia := ih X μ fb sc g
    have pe : ∀ e, mE T cs N (.call f a) sc e = true → ∃ x es pos, e = .Call x es [] pos ∧ PE X e (rdE μ C (.call f a)) := fun e h => by
      obtain ⟨x, fp, y, es, pos, rfl, h2⟩ := iCall h
      simp only [Bool.and_eq_true] at h2
      obtain ⟨⟨⟨h3, h4⟩, h5⟩, h6⟩ := h2
      cases hF : T.lookup f with
      | none => rw [hF] at h5; cases h5
      | some F =>
        rw [hF] at h5
        have hx : F.name = x := eq_of_beq h5
        subst hx
        obtain ⟨fa, fd, ps, m1, m2, m3, m4⟩ := g.mod.fns f F hF
        obtain ⟨pa, hs⟩ := ia.pa _ h6
        simp only [List.all_cons, Bool.and_eq_true] at hs
        refine ⟨_, _, _, rfl, (pe_callSD (dvs := []) (E := fun σ => WE μ.W σ) m4 g.room (g.gl h3) m1 m2 m3 .nil (fun σ => passAt g.tk σ) pa (plain_debug h4).1 (star_ok hs.1) (star_any hs.2)).imp fun σ H Q z => ?_⟩
        exact rd_call (g.mod.arg f F hF) (g.mod.val f) (g.mod.exx f F hF) z
    exact ⟨fun e h => let ⟨_, _, _, _, q⟩ := pe e h; q, fun e h => let ⟨_, _, _, z, q⟩ := pe e h; pt_of q (by rw [z]; intro _; rfl), (fun z => nomatch z), no_args fun _ => rfl⟩
  | lc own tg kd a b c e iha ihb ihc ihe =>
    intro X μ fb sc g
    have ia := iha X μ fb sc g
    have ib := ihb X μ fb sc g
    have pe : ∀ ex, mE T cs N (.lc own tg kd a b c e) sc ex = true → ∃ p q r s, ex = .ListComp p q r s ∧ PE X ex (rdE μ C (.lc own tg kd a b c e)) := fun ex h => by
      obtain ⟨elt, t, it, ifs, scope, pos, rfl, h2⟩ := iLc h
      simp only [Bool.and_eq_true] at h2
      obtain ⟨⟨⟨⟨⟨hb, ht⟩, hi⟩, hv⟩, hc⟩, he⟩ := h2
      obtain ⟨pI, hf⟩ := it_sound g ia.pe ib.pe (tup_tg ht) hi
      have hbk : BlkOk X.N X.env.scope scope own := by rw [g.hN, g.hsc]; exact blkOk_by hb
      refine ⟨_, _, _, _, rfl, (pe_lc g.calm (by rw [g.hN]; exact g.nd) pI hbk (fun s H Ca cl fp => (g.blk).tg ht) (fun s H Ca cl fp => ?_) (fun s H Ca cl fp => (ihe _ _ _ _ g.blk).pe elt he) hf).imp fun σ H Q z => rd_lc (fun i hi => ?_) z⟩
      · have ic := ihc _ _ _ _ (g.blk (s := s) (H := H) (scope := scope) (cl := cl) (Ca := Ca) (fp := fp))
        match ifs, hc with
        | [], hc =>
          cases c with
          | lit d => cases d with
            | bl bb => cases bb with
              | true => exact ⟨fun pins s σ H Q I q => pts_nil.run pins s σ H Q I (by
                  obtain ⟨Ox, H0, M, env, ev, q⟩ := q
                  simp only [evE] at q
                  obtain ⟨b', eb, q⟩ := q (.bl true) H (Ex.fr Ex.rfl') (fun _ z => z) ⟨ev, .bl _⟩
                  cases eb
                  exact q)⟩
              | false => cases hc
            | _ => cases hc
          | _ => cases hc
        | [z], hc => exact pts_one (ic.pt z hc)
      · have := List.all_eq_true.mp hv i hi
        simpa using this
    exact ⟨fun e h => let ⟨_, _, _, _, _, q⟩ := pe e h; q, fun e h => let ⟨_, _, _, _, z, q⟩ := pe e h; pt_of q (by rw [z]; intro _; rfl), (fun z => nomatch z), no_args fun _ => rfl⟩
  | get a b c iha ihb ihc =>
    intro X μ fb sc g
    have ia := iha X μ fb sc g
    have ib := ihb X μ fb sc g
    have ic := ihc X μ fb sc g
    have via : ∀ (i : Nat), (∀ x xp, slotB N sc i x = true → PE X (.Name x xp) (rdE μ C a)) → ∀ e, fMt2 (fun m o y z => m == "get" && slotB N sc i o && mE T cs N b sc y && mE T cs N c sc z) e = true → ∃ x es pos, e = .Call x es [] pos ∧ PE X e (rdE μ C (.get a b c)) := fun i hx e h => by
      obtain ⟨o, op, mm, apos, x, y, pos, rfl, hl, s1, s2, h2⟩ := iMt2 h
      simp only [Bool.and_eq_true, beq_iff_eq] at h2
      obtain ⟨⟨⟨rfl, h3⟩, h4⟩, h5⟩ := h2
      exact ⟨_, _, _, rfl, (pe_dget2 (by have := g.un; omega) (hx o op h3) (ib.pe x h4) (ic.pe y h5) ⟨rfl, by rw [star_ok s1, star_ok s2]; rfl, hl, by rw [star_ok s1, star_ok s2]; rfl⟩).imp fun σ H Q z => rd_get z⟩
    have pe : ∀ e, mE T cs N (.get a b c) sc e = true → ∃ x es pos, e = .Call x es [] pos ∧ PE X e (rdE μ C (.get a b c)) := fun e h => by
      cases a with
      | var i => exact via i (fun x xp hs => (g.name hs).imp fun σ H Q z => rd_var z) e h
      | own i => exact via i (fun x xp hs => (g.name hs).imp fun σ H Q z => rd_own z) e h
      | _ => cases h
    exact ⟨fun e h => let ⟨_, _, _, _, q⟩ := pe e h; q, fun e h => let ⟨_, _, _, z, q⟩ := pe e h; pt_of q (by rw [z]; intro _; rfl), (fun z => nomatch z), no_args fun _ => rfl⟩
  | pop i =>
    intro X μ fb sc g
    have pe : ∀ e, mE T cs N (.pop i) sc e = true → ∃ x es pos, e = .Call x es [] pos ∧ PE X e (rdE μ C (.pop i)) := fun e h => by
      obtain ⟨o, op, mm, apos, pos, rfl, hl, h2⟩ := iMt0 h
      simp only [Bool.and_eq_true, beq_iff_eq] at h2
      obtain ⟨rfl, h3⟩ := h2
      exact ⟨_, _, _, rfl, (pe_bm0 PySem.F.plainAttrs_list PySem.F.slot_list_pop PySem.F.type_list_pop mt_pop (g.name h3) rfl hl).imp fun σ H Q z => rd_pop z⟩
    exact ⟨fun e h => let ⟨_, _, _, _, q⟩ := pe e h; q, fun e h => let ⟨_, _, _, z, q⟩ := pe e h; pt_of q (by rw [z]; intro _; rfl), (fun z => nomatch z), no_args fun _ => rfl⟩
  | popAt i a ih =>
    intro X μ fb sc g
    have ia := ih X μ fb sc g
    have pe : ∀ e, mE T cs N (.popAt i a) sc e = true → ∃ x es pos, e = .Call x es [] pos ∧ PE X e (rdE μ C (.popAt i a)) := fun e h => by
      obtain ⟨o, op, mm, apos, x, pos, rfl, hl, s1, h2⟩ := iMt1 h
      simp only [Bool.and_eq_true, beq_iff_eq] at h2
      obtain ⟨⟨rfl, h3⟩, h4⟩ := h2
      exact ⟨_, _, _, rfl, (pe_bm PySem.F.plainAttrs_list PySem.F.slot_list_pop PySem.F.type_list_pop mt_popAt (g.name h3) (pa_cons (ia.pe x h4) pa_nil (star_ok s1)) rfl (by rw [star_ok s1]; rfl) hl (star_ok s1) rfl).imp fun σ H Q z => rd_popAt z⟩
    exact ⟨fun e h => let ⟨_, _, _, _, q⟩ := pe e h; q, fun e h => let ⟨_, _, _, z, q⟩ := pe e h; pt_of q (by rw [z]; intro _; rfl), (fun z => nomatch z), no_args fun _ => rfl⟩
  | setdef i a b iha ihb =>
    intro X μ fb sc g
    have ia := iha X μ fb sc g
    have ib := ihb X μ fb sc g
    have pe : ∀ e, mE T cs N (.setdef i a b) sc e = true → ∃ x es pos, e = .Call x es [] pos ∧ PE X e (rdE μ C (.setdef i a b)) := fun e h => by
      obtain ⟨o, op, mm, apos, x, y, pos, rfl, hl, s1, s2, h2⟩ := iMt2 h
      simp only [Bool.and_eq_true, beq_iff_eq] at h2
      obtain ⟨⟨⟨rfl, h3⟩, h4⟩, h5⟩ := h2
      exact ⟨_, _, _, rfl, (pe_dsetd (g.name h3) (ia.pe x h4) (ib.pe y h5) ⟨rfl, by rw [star_ok s1, star_ok s2]; rfl, hl, by rw [star_ok s1, star_ok s2]; rfl⟩).imp fun σ H Q z => rd_setdef z⟩
    exact ⟨fun e h => let ⟨_, _, _, _, q⟩ := pe e h; q, fun e h => let ⟨_, _, _, z, q⟩ := pe e h; pt_of q (by rw [z]; intro _; rfl), (fun z => nomatch z), no_args fun _ => rfl⟩
  | lend i a ih =>
    intro X μ fb sc g
    have ia := ih X μ fb sc g
    exact ⟨fun e h => (ia.pe e h).imp fun σ H Q z => rd_lend z, fun e h => (ia.pt e h).imp fun σ H Q z => rd_lend z, (fun z => nomatch z), no_args fun _ => rfl⟩
  | fld x a ih => intro X μ fb sc g; exact snd_no (fun _ => rfl) rfl fun _ => rfl
  | isC cs' t a ih => intro X μ fb sc g; exact snd_no (fun _ => rfl) rfl fun _ => rfl
  | mkf c x a ih => intro X μ fb sc g; exact snd_no (fun _ => rfl) rfl fun _ => rfl
  | mkIs c z b => intro X μ fb sc g; exact snd_no (fun _ => rfl) rfl fun _ => rfl
end
end En
end

section
set_option Elab.async false
set_option linter.all false
set_option maxRecDepth 100000
set_option maxHeartbeats 4000000
namespace En
open PySem PySem.Spec L2
variable [Wd]

/-! ### += -/
theorem aug_rule {X : Cx} : PIp X .Add ipAdd := by
  intro pins s σ H x y v u Q I r1 r2 h
  rcases h with h | ⟨l, b, xs, zs, rfl, rfl, hH, hB, hz, q⟩
  · exact ip_add pins s σ H x y v u Q I r1 r2 h
  · cases r1
    cases r2
    obtain ⟨z, its, n, r, hl, e⟩ := I.lstM hH
    obtain ⟨z2, its2, n2, r2, e2⟩ := hB.ok I.hok
    have hl2 := r2.length
    have hsz : its.toArray.size + its2.toArray.size ≤ sizeLine := by rw [List.size_toArray, List.size_toArray]; omega
    have hng : ¬ (!its.toArray.isEmpty && Builtin.List.listTooLong (its.toArray.size + its2.toArray.size)) = true := by
      rw [notLongL hsz, Bool.and_false]; decide
    refine iadd_road ⟨_, e, rfl⟩ ⟨_, e2, rfl⟩ (call_meets PySem.F.slot_list_iadd ⟨_, e, rfl⟩ PySem.F.entry_list_iadd (PySem.F.args_list_iadd_2 _ _)
      (AutoSeq1.list___iadd___list_list_0 l its.toArray n b its2.toArray n2 hng (by rw [List.size_toArray]; omega) (by omega)) ⟨e, e2, ?_⟩)
    exact ⟨.ref l, _, I.lset (its' := its ++ its2) (t' := s.toks) hH e (by simp) (r.append r2) (by rw [List.length_append]; omega), rfl, q⟩

/-! ### statements in the text -/
def fFn (sc : Scope) : Bool := match sc.kind with
  | .function => true
  | _ => false
def isLocal (sc : Scope) (x : Str) : Bool := match sc.names.lookup x with
  | some .local => true
  | _ => false
/-- name = a comprehension: stored within its frame, or behind it -/
def lcSet (sc : Scope) (y : Str) (py : Pos) (e : Expr) : Bool := match e with
  | .ListComp _ _ scope pos => isLocal sc y && fFn sc && (py.line == pos.line) && !(scope.names.any fun (n, k) => n == y && (k == .local || k == .cell))
  | _ => false
def noTup (e : Expr) : Bool := match e with
  | .Tuple .. => false
  | _ => true
/-- a, b = x, y: stored from the right -/
def parB (N : List Str) (sc : Scope) (i j : Nat) (x y : Str) (px py : Pos) (a b : Expr) : Bool :=
  decide (N[i]? = some x) && decide (N[j]? = some y) && !(i == j) && isLocal sc x && isLocal sc y && fFn sc && (px.line == py.line) && !(x == y) && noStar a && noStar b && !(foldedForSure 8 a && foldedForSure 8 b) && !(constantsAlone 8 a && constantsAlone 8 b)
def isFrz : S → Bool
  | .frz _ => true
  | _ => false
def isLcE : E → Bool
  | .lc .. => true
  | _ => false
mutual
def mS1 (T : Tab) (cs : List (Str × D)) (N : List Str) (fb : Str → Bool) (sc : Scope) : S → Stmt → Bool
  | .asg i _ e, st => match st with
    | .Assign [.Name y py] v _ => storB N fb sc i (.Name y py) && mE T cs N e sc v && (noComp v || (isLcE e && lcSet sc y py v) || (match v with | .ListComp .. => !isLocal sc y | _ => false))
    | _ => false
  | .asgT is e, st => match st with
    | .Assign [.Tuple ts _ _] v _ => storsB N fb sc is ts && mE T cs N e sc v && noComp v && noTup v
    | _ => false
  | .asgM i e, st => match st with
    | .Assign [.Name y py] v _ => storB N fb sc i (.Name y py) && mE T cs N e sc v && noComp v
    | _ => false
  | .asgP i j a b, st => match st with
    | .Assign [.Tuple [.Name x px, .Name y py] _ _] (.Tuple [a', b'] _ _) _ => parB N sc i j x y px py a' b' && mE T cs N a sc a' && mE T cs N b sc b'
    | _ => false
  | .setI i k e, st => match st with
    | .Assign [.Subscript (.Name o _) ix _] v _ => slotB N sc i o && noSlice ix && mE T cs N k sc ix && mE T cs N e sc v && noComp v
    | _ => false
  | .app i e, st => match st with
    | .Expr v _ => fMt1 (fun m o x => m == "append" && slotB N sc i o && mE T cs N e sc x) v
    | _ => false
  | .clear i, st => match st with
    | .Expr v _ => fMt0 (fun m o => m == "clear" && slotB N sc i o) v
    | _ => false
  | .iteJ _ c s t, st => match st with
    | .If c' a b _ => mE T cs N c sc c' && mS T cs N fb sc s a && mS T cs N fb sc t b
    | _ => false
  | .forC i j c b, st => match st with
    | .For t (.Name x _) [.If c' [.Return (some (.Constant k _ _)) _] [] _] [] _ => storB N fb sc j t && slotB N sc i x && mE T cs N c sc c' && conB b k
    | _ => false
  | .forD _ i tg k s, st => match st with
    | .For t it body [] _ => tgB N fb sc tg t && (match k with
      | .items => tg.tup && fMt0 (fun m o => m == "items" && slotB N sc i o) it
      | .keys => fName (slotB N sc i) it
      | _ => false) && mS T cs N fb sc s body
    | _ => false
  | .aug i e, st => match st with
    | .AugAssign t .Add v _ => storB N fb sc i t && mE T cs N e sc v
    | _ => false
  | .ex e, st => match st with
    | .Expr v _ => mE T cs N e sc v && noComp v
    | _ => false
  | .ret e, st => match st with
    | .Return (some v) _ => mE T cs N e sc v
    | _ => false
  | .retN, st => match st with
    | .Return none _ => true
    | _ => false
  | .ite c s t, st => match st with
    | .If c' a b _ => mE T cs N c sc c' && mS T cs N fb sc s a && mS T cs N fb sc t b
    | _ => false
  | .for _ tg k a b s, st => match st with
    | .For t it body [] _ => tgB N fb sc tg t && itB sc k (mE T cs N a sc) (mE T cs N b sc) b tg.tup it && mS T cs N fb sc s body
    | _ => false
  | .wh _ _ c s, st => match st with
    | .While c' body [] _ => mE T cs N c sc c' && mS T cs N fb sc s body
    | _ => false
  | .never, _ => true
  | _, _ => false
def mS (T : Tab) (cs : List (Str × D)) (N : List Str) (fb : Str → Bool) (sc : Scope) : S → List Stmt → Bool
  | .skip, sts => sts.isEmpty
  | .seq s t, sts => if isFrz s then mS T cs N fb sc t sts else match sts with
    | st :: r => mS1 T cs N fb sc s st && mS T cs N fb sc t r
    | [] => false
  | _, _ => false
end
structure SndS (T : Tab) (cs : List (Str × D)) (C : Calls) (k : Nat) (N : List Str) (s : S) (X : Cx) (μ : Mo) (fb : Str → Bool) (sc : Scope) : Prop where
  ps : ∀ st, mS1 T cs N fb sc s st = true → PS X st (rdS μ C s)
  pss : ∀ sts, mS T cs N fb sc s sts = true → PSs X sts (rdS μ C s)

section
variable {T : Tab} {cs : List (Str × D)} {C : Calls} {k : Nat} {N : List Str}
/-- the parts of a comprehension -/
theorem lc_set {X : Cx} {μ : Mo} {fb : Str → Bool} {sc : Scope} (g : Good T cs C k N X μ fb sc) {own : List (Str × Nat)} {tg : Tg} {kd : ItK} {a b c e : E} {ex : Expr} {i : Nat} {y : Str} {py spos : Pos} (h : mE T cs N (.lc own tg kd a b c e) sc ex = true)
    (hy : N[i]? = some y) (hl : lcSet sc y py ex = true) : PS X (.Assign [.Name y py] ex spos) (tAsg (rdE μ C (.lc own tg kd a b c e)) (gName i)) := by
  obtain ⟨elt, t, it, ifs, scope, pos, rfl, h2⟩ := iLc h
  simp only [Bool.and_eq_true] at h2
  obtain ⟨⟨⟨⟨⟨hb, ht⟩, hi⟩, hv⟩, hc⟩, he⟩ := h2
  obtain ⟨pI, hf⟩ := it_sound g (soundE a X μ fb sc g).pe (soundE b X μ fb sc g).pe (tup_tg ht) hi
  have hbk : BlkOk X.N X.env.scope scope own := by rw [g.hN, g.hsc]; exact blkOk_by hb
  simp only [lcSet, Bool.and_eq_true, Bool.not_eq_true'] at hl
  obtain ⟨⟨⟨l1, l2⟩, l3⟩, l4⟩ := hl
  have hk : X.env.scope.kind = .function := by
    rw [g.hsc]
    unfold fFn at l2
    split at l2
    · assumption
    · cases l2
  have hyl : X.env.scope.names.lookup y = some .local := by
    rw [g.hsc]
    unfold isLocal at l1
    split at l1
    · assumption
    · cases l1
  refine (ps_setLc (i := i) g.calm (by rw [g.hN]; exact g.nd) (by rw [g.hN]; exact hy) hyl (sw_true hk hyl l3 l4) pI hbk (fun s H Ca cl fp => (g.blk).tg ht) (fun s H Ca cl fp => ?_) (fun s H Ca cl fp => (soundE e _ _ _ _ g.blk).pe elt he) hf).imp fun D σ H z => rd_lc (fun i hi => ?_) z
  · have ic := soundE (T := T) (cs := cs) (C := C) (k := k) (N := N) c _ _ _ _ (g.blk (s := s) (H := H) (scope := scope) (cl := cl) (Ca := Ca) (fp := fp))
    match ifs, hc with
    | [], hc =>
      cases c with
      | lit d => cases d with
        | bl bb => cases bb with
          | true => exact ⟨fun pins s σ H Q I q => pts_nil.run pins s σ H Q I (by
              obtain ⟨Ox, H0, M, env, ev, q⟩ := q
              simp only [evE] at q
              obtain ⟨b', eb, q⟩ := q (.bl true) H (Ex.fr Ex.rfl') (fun _ z => z) ⟨ev, .bl _⟩
              cases eb
              exact q)⟩
          | false => cases hc
        | _ => cases hc
      | _ => cases hc
    | [z], hc => exact pts_one (ic.pt z hc)
  · have := List.all_eq_true.mp hv i hi
    simpa using this
theorem sw_false {elt : Expr} {gs : List Comprehension} {scope : Scope} {pos py : Pos} {y : Str} {l : Nat} {env : PySem.Env} (hy : env.scope.names.lookup y ≠ some .local) : swapsWith (.ListComp elt gs scope pos) (some (.Name y py)) l env = pure false := by
  have e : (env.kindOf y == some NameKind.local) = false := by
    unfold PySem.Env.kindOf
    cases h : env.scope.names.lookup y with
    | none => rfl
    | some z => cases z <;> first | rfl | exact absurd h hy
  unfold swapsWith
  simp only [e]
  simp
theorem noTup_sw {X : Cx} {ts : List Expr} {kt : Nat} {pt : Pos} {v : Expr} (h : noTup v = true) : swappedStores [.Tuple ts kt pt] v X.env = pure none := by
  cases v with
  | Tuple => cases h
  | _ => rfl
theorem noComp_sole {X : Cx} {t v : Expr} {l : Nat} (h : noComp v = true) : swapsWithSole [t] v l X.env = pure false := noComp_sw h
theorem sub_assign {X : Cx} {o i : Expr} {pos : Pos} (h : noSlice i = true) (v : Value) : assign (.Subscript o i pos) X.env v = (do
    let ov ← holding [v] (eval o X.env)
    let iv ← holding [v, ov] (eval i X.env)
    standAt pos
    holding [v, ov, iv] (setItem ov iv v); release [v, ov, iv] []) := by
  cases i with
  | Slice => cases h
  | _ => rfl
theorem par_stores {env : PySem.Env} {x y : Str} {px py pt pt2 : Pos} {kt k2 : Nat} {a b : Expr} (hk : env.scope.kind = .function) (hx : env.scope.names.lookup x = some .local) (hy : env.scope.names.lookup y = some .local) (hln : px.line = py.line) (hxy : (x == y) = false)
    (sa : noStar a = true) (sb : noStar b = true) (hf1 : (foldedForSure 8 a && foldedForSure 8 b) = false) (hf2 : (constantsAlone 8 a && constantsAlone 8 b) = false) :
    swappedStores [.Tuple [.Name x px, .Name y py] kt pt] (.Tuple [a, b] k2 pt2) env = pure (some [x, y]) := by
  have kx : env.kindOf x = some .local := hx
  have ky : env.kindOf y = some .local := hy
  have hb : env.blockKind = .function := by unfold PySem.Env.blockKind; rw [hk]; rfl
  have st : ([a, b].any fun | .Starred .. => true | _ => false) = false := by
    cases a <;> first | (cases sa; done) | (cases b <;> first | (cases sb; done) | rfl)
  have hyx : (y == x) = false := by rw [← hxy]; exact BEq.comm
  have p1 : (Expr.Name x px).pos.line = px.line := rfl
  have f1 : ¬ (foldedForSure 8 a = true ∧ foldedForSure 8 b = true) := fun z => by rw [z.1, z.2] at hf1; cases hf1
  have f2 : ¬ (constantsAlone 8 a = true ∧ constantsAlone 8 b = true) := fun z => by rw [z.1, z.2] at hf2; cases hf2
  have stA : ∀ z : Expr, noStar z = true → ¬ (match z with | .Starred _ _ => true | _ => false) = true := fun z hz => by cases z <;> first | (cases hz; done) | simp
  unfold swappedStores
  simp [hb, kx, ky, hln, p1, List.filterMap_cons, List.filterMap_nil, List.eraseDups_cons, hyx]
  rw [if_neg (fun z => z.elim (stA a sa) (stA b sb)), if_neg f1, if_neg f2]
theorem sndS_no {X : Cx} {μ : Mo} {fb : Str → Bool} {sc : Scope} {s : S} (h : ∀ st, mS1 T cs N fb sc s st = true → PS X st (rdS μ C s)) (h2 : ∀ sts, mS T cs N fb sc s sts = false) : SndS T cs C k N s X μ fb sc :=
  ⟨h, fun sts q => (by rw [h2 sts] at q; cases q)⟩
theorem soundS (s : S) : ∀ (X : Cx) (μ : Mo) (fb : Str → Bool) (sc : Scope), Good T cs C k N X μ fb sc → SndS T cs C k N s X μ fb sc := by
  induction s with
  | skip => intro X μ fb sc g; exact ⟨(fun st h => nomatch h), fun sts h => by
      cases sts with
      | nil => exact pss_nil.imp fun D σ H z => rd_skip z
      | cons => cases h⟩
  | seq s t ihs iht =>
    intro X μ fb sc g
    have is := ihs X μ fb sc g
    have it := iht X μ fb sc g
    refine ⟨(fun st h => nomatch h), fun sts h => ?_⟩
    simp only [mS] at h
    split at h
    · rename_i hf
      cases s with
      | frz is => exact (it.pss sts h).imp fun D σ H z => rd_frz z
      | _ => cases hf
    cases sts with
    | nil => cases h
    | cons st r =>
      simp only [Bool.and_eq_true] at h
      exact (pss_cons (is.ps st h.1) (it.pss r h.2)).imp fun D σ H z => rd_seqS z
  | asg i ow e =>
    intro X μ fb sc g
    have ie := soundE (T := T) (cs := cs) (C := C) (k := k) (N := N) e X μ fb sc g
    refine sndS_no (fun st h => ?_) fun _ => rfl
    simp only [mS1] at h
    split at h
    · rename_i y py v spos
      simp only [Bool.and_eq_true] at h
      obtain ⟨⟨h1, h2⟩, h3⟩ := h
      obtain ⟨_, y', py', e', hi, hl, hf⟩ := g.stor h1
      cases e'
      have hN : X.N.Nodup := by rw [g.hN]; exact g.nd
      have hi' : X.N[i]? = some y := by rw [g.hN]; exact hi
      rcases Bool.or_eq_true _ _ ▸ h3 with h3 | h3
      · rcases Bool.or_eq_true _ _ ▸ h3 with h3 | h3
        · exact (ps_set hN hi' hl (ie.pe v h2) (noComp_sw h3) hf).imp fun D σ H z => rd_asg z
        · have h4 := Bool.and_eq_true _ _ ▸ h3
          cases e with
          | lc own tg kd a b c e => exact (lc_set g h2 hi h4.2).imp fun D σ H z => rd_asg z
          | _ => exact absurd h4.1 (fun z => nomatch z)
      · cases v with
        | ListComp elt gs scope pos =>
          refine (ps_set hN hi' hl (ie.pe _ h2) (sw_false fun z => ?_) hf).imp fun D σ H z => rd_asg z
          rw [g.hsc] at z
          unfold isLocal at h3
          rw [z] at h3
          cases h3
        | _ => cases h3
    · cases h
  | asgT is e =>
    intro X μ fb sc g
    have ie := soundE (T := T) (cs := cs) (C := C) (k := k) (N := N) e X μ fb sc g
    refine sndS_no (fun st h => ?_) fun _ => rfl
    simp only [mS1] at h
    split at h
    · rename_i ts kt pt v spos
      simp only [Bool.and_eq_true] at h
      obtain ⟨⟨⟨h1, h2⟩, h3⟩, h4⟩ := h
      obtain ⟨p1, p2, p3⟩ := g.stors h1
      have pg : PG X (.Tuple ts kt pt) (fun v σ H Q => gTup X.K is.length (gsOf is) v σ H Q ∨ gUnl X.K is.length (gsOf is) v σ H Q) := ⟨fun pins s σ H v u Q I r q => by
        rcases q with q | q
        · exact (pg_tup g.calm p1 p2 p3).run pins s σ H v u Q I r q
        · exact (pg_unl g.calm p1 p2 p3).run pins s σ H v u Q I r q⟩
      refine (ps_asg (ie.pe v h2) pg (noComp_sole h3) (noTup_sw h4) rfl).imp fun D σ H z => ?_
      obtain ⟨Ox, H0, M, env, ev, z⟩ := rd_asgT (K := X.K) z
      refine ⟨Ox, H0, M, env, ev, PostG.imp z fun _ _ w H1 _ _ _ _ q => ?_⟩
      obtain ⟨a, xs, rfl, hq, hl, hg⟩ := q
      rcases hq with hq | hq
      · exact .inl ⟨a, xs, rfl, hq, hl, hg⟩
      · exact .inr ⟨a, xs, rfl, hq, hl, hg⟩
    · cases h
  | asgP i j a b =>
    intro X μ fb sc g
    have ia := soundE (T := T) (cs := cs) (C := C) (k := k) (N := N) a X μ fb sc g
    have ib := soundE (T := T) (cs := cs) (C := C) (k := k) (N := N) b X μ fb sc g
    refine sndS_no (fun st h => ?_) fun _ => rfl
    simp only [mS1] at h
    split at h
    · rename_i x px y py kt pt a' b' k2 pt2 spos
      simp only [Bool.and_eq_true] at h
      obtain ⟨⟨h1, h2⟩, h3⟩ := h
      simp only [parB, Bool.and_eq_true, decide_eq_true_eq, Bool.not_eq_true'] at h1
      obtain ⟨⟨⟨⟨⟨⟨⟨⟨⟨⟨⟨n1, n2⟩, hij⟩, lx⟩, ly⟩, hfn⟩, hln⟩, hxy⟩, sa⟩, sb⟩, hf1⟩, hf2⟩ := h1
      have hN : X.N.Nodup := by rw [g.hN]; exact g.nd
      have loc : ∀ z, isLocal sc z = true → X.env.scope.names.lookup z = some .local := fun z hz => by
        rw [g.hsc]
        unfold isLocal at hz
        split at hz
        · assumption
        · cases hz
      have hk : X.env.scope.kind = .function := by
        rw [g.hsc]
        unfold fFn at hfn
        split at hfn
        · assumption
        · cases hfn
      refine (ps_par g.calm hN (by rw [g.hN]; exact n1) (by rw [g.hN]; exact n2) (by simpa using hij) (loc x lx) (loc y ly) (pa_cons (ia.pe a' h2) (pa_cons (ib.pe b' h3) pa_nil (star_ok sb)) (star_ok sa)) ?_).imp fun D σ H z => rd_asgP z
      exact par_stores hk (loc x lx) (loc y ly) (eq_of_beq hln) hxy sa sb hf1 hf2
    · cases h
  | asgM i e =>
    intro X μ fb sc g
    have ie := soundE (T := T) (cs := cs) (C := C) (k := k) (N := N) e X μ fb sc g
    refine sndS_no (fun st h => ?_) fun _ => rfl
    simp only [mS1] at h
    split at h
    · rename_i y py v spos
      simp only [Bool.and_eq_true] at h
      obtain ⟨⟨h1, h2⟩, h3⟩ := h
      obtain ⟨_, y', py', e', hi, hl, hf⟩ := g.stor h1
      cases e'
      exact (ps_set (by rw [g.hN]; exact g.nd) (by rw [g.hN]; exact hi) hl (ie.pe v h2) (noComp_sw h3) hf).imp fun D σ H z => rd_asgM z
    · cases h
  | frz is => intro X μ fb sc g; exact sndS_no (fun st h => nomatch h) fun _ => rfl
  | forC i j c b =>
    intro X μ fb sc g
    have ic := soundE (T := T) (cs := cs) (C := C) (k := k) (N := N) c X μ fb sc g
    refine sndS_no (fun st h => ?_) fun _ => rfl
    simp only [mS1] at h
    split at h
    · rename_i t x xp c' kc j2 cp rp ip fp
      simp only [Bool.and_eq_true] at h
      obtain ⟨⟨⟨h1, h2⟩, h3⟩, h4⟩ := h
      have pc : ∃ vb, flatD b = some vb ∧ PE X (.Constant kc j2 cp) (tC vb) := by
        cases b <;> cases kc <;> first
          | (cases h4; done)
          | exact ⟨_, rfl, pe_non⟩
          | (have := eq_of_beq h4; subst this; exact ⟨_, rfl, pe_bl⟩)
          | (have := eq_of_beq h4; subst this; exact ⟨_, rfl, pe_int⟩)
          | (have := eq_of_beq h4; subst this; exact ⟨_, rfl, pe_str⟩)
      obtain ⟨vb, hv, pc⟩ := pc
      exact (ps_for g.po g.calm (pi_list (g.name h2)) (g.stor h1).1 (pss_cons (ps_if (ic.pt _ h3) (pss_cons (ps_ret pc) pss_nil) pss_nil) pss_nil) (fun _ => rfl)).imp fun D σ H z => rd_forC hv z
    · cases h
  | forD vs i tg kd s ihs =>
    intro X μ fb sc g
    have is := ihs X μ fb sc g
    refine sndS_no (fun st h => ?_) fun _ => rfl
    simp only [mS1] at h
    split at h
    · rename_i t it body fpos
      simp only [Bool.and_eq_true] at h
      obtain ⟨⟨h1, h2⟩, h3⟩ := h
      have pI : PI X t it (itDic kd (tVar i)) ∧ ∀ x, foldedSetIterable it X.env x = pure x := by
        cases kd with
        | items =>
          simp only [Bool.and_eq_true] at h2
          obtain ⟨es, kk, tp, rfl⟩ := tup_tg h1 h2.1
          obtain ⟨o, op, mm, apos, pos, rfl, hl, h4⟩ := iMt0 h2.2
          simp only [Bool.and_eq_true, beq_iff_eq] at h4
          obtain ⟨rfl, h5⟩ := h4
          exact ⟨pi_items (g.name h5) rfl hl, fun _ => rfl⟩
        | keys =>
          obtain ⟨x, pos, rfl, h4⟩ := iName h2
          exact ⟨pi_keys (g.name h4), fun _ => rfl⟩
        | _ => cases h2
      have pf := ps_for g.po g.calm pI.1 (g.tg h1) (is.pss _ h3) pI.2 (pos := fpos)
      refine ⟨fun pins s σ H D I q => ?_⟩
      rcases rd_forD (K := X.K) q with q | q
      · exact (ps_lock pf).run pins s σ H D I q
      · exact pf.run pins s σ H D I q
    · cases h
  | aug i e =>
    intro X μ fb sc g
    have ie := soundE (T := T) (cs := cs) (C := C) (k := k) (N := N) e X μ fb sc g
    refine sndS_no (fun st h => ?_) fun _ => rfl
    simp only [mS1] at h
    split at h
    · rename_i t v spos
      simp only [Bool.and_eq_true] at h
      obtain ⟨_, y, py, rfl, hi, hl, hf⟩ := g.stor h.1
      exact (ps_aug (by rw [g.hN]; exact g.nd) (by rw [g.hN]; exact hi) hl (ie.pe v h.2) aug_rule hf).imp fun D σ H z => rd_aug z
    · cases h
  | setI i a e =>
    intro X μ fb sc g
    have ia := soundE (T := T) (cs := cs) (C := C) (k := k) (N := N) a X μ fb sc g
    have ie := soundE (T := T) (cs := cs) (C := C) (k := k) (N := N) e X μ fb sc g
    refine sndS_no (fun st h => ?_) fun _ => rfl
    simp only [mS1] at h
    split at h
    · rename_i o op ix ip v spos
      simp only [Bool.and_eq_true] at h
      obtain ⟨⟨⟨⟨h1, h2⟩, h3⟩, h4⟩, h5⟩ := h
      exact (ps_asg (ie.pe v h4) (pg_sub (g.name h1) (ia.pe ix h3) (set_all g.un g.wd) (sub_assign h2)) (noComp_sole h5) rfl rfl).imp fun D σ H z => rd_setI z
    · cases h
  | app i e =>
    intro X μ fb sc g
    have ie := soundE (T := T) (cs := cs) (C := C) (k := k) (N := N) e X μ fb sc g
    refine sndS_no (fun st h => ?_) fun _ => rfl
    simp only [mS1] at h
    split at h
    · obtain ⟨o, op, mm, apos, x, pos, rfl, hl, s1, h2⟩ := iMt1 h
      simp only [Bool.and_eq_true, beq_iff_eq] at h2
      obtain ⟨⟨rfl, h3⟩, h4⟩ := h2
      exact (ps_expr (pe_bm PySem.F.plainAttrs_list PySem.F.slot_list_append PySem.F.type_list_append mt_append (g.name h3) (pa_cons (ie.pe x h4) pa_nil (star_ok s1)) rfl (by rw [star_ok s1]; rfl) hl (star_ok s1) rfl) rfl).imp fun D σ H z => rd_app z
    · cases h
  | clear i =>
    intro X μ fb sc g
    refine sndS_no (fun st h => ?_) fun _ => rfl
    simp only [mS1] at h
    split at h
    · obtain ⟨o, op, mm, apos, pos, rfl, hl, h2⟩ := iMt0 h
      simp only [Bool.and_eq_true, beq_iff_eq] at h2
      obtain ⟨rfl, h3⟩ := h2
      exact (ps_expr (pe_bm0 PySem.F.plainAttrs_list PySem.F.slot_list_clear PySem.F.type_list_clear mt_clear (g.name h3) rfl hl) rfl).imp fun D σ H z => rd_clear z
    · cases h
  | ex e =>
    intro X μ fb sc g
    have ie := soundE (T := T) (cs := cs) (C := C) (k := k) (N := N) e X μ fb sc g
    refine sndS_no (fun st h => ?_) fun _ => rfl
    simp only [mS1] at h
    split at h
    · rename_i v spos
      simp only [Bool.and_eq_true] at h
      exact (ps_expr (ie.pe v h.1) (noComp_sw h.2)).imp fun D σ H z => rd_exS z
    · cases h
  | ite c s t ihs iht =>
    intro X μ fb sc g
    have ic := soundE (T := T) (cs := cs) (C := C) (k := k) (N := N) c X μ fb sc g
    have is := ihs X μ fb sc g
    have it := iht X μ fb sc g
    refine sndS_no (fun st h => ?_) fun _ => rfl
    simp only [mS1] at h
    split at h
    · simp only [Bool.and_eq_true] at h
      exact (ps_if (ic.pt _ h.1.1) (is.pss _ h.1.2) (it.pss _ h.2)).imp fun D σ H z => rd_iteS z
    · cases h
  | iteJ vs c s t ihs iht =>
    intro X μ fb sc g
    have ic := soundE (T := T) (cs := cs) (C := C) (k := k) (N := N) c X μ fb sc g
    have is := ihs X μ fb sc g
    have it := iht X μ fb sc g
    refine sndS_no (fun st h => ?_) fun _ => rfl
    simp only [mS1] at h
    split at h
    · simp only [Bool.and_eq_true] at h
      exact (ps_if (ic.pt _ h.1.1) (is.pss _ h.1.2) (it.pss _ h.2)).imp fun D σ H z => rd_iteJ z
    · cases h
  | «for» vs tg kd a b s ihs =>
    intro X μ fb sc g
    have ia := soundE (T := T) (cs := cs) (C := C) (k := k) (N := N) a X μ fb sc g
    have ib := soundE (T := T) (cs := cs) (C := C) (k := k) (N := N) b X μ fb sc g
    have is := ihs X μ fb sc g
    refine sndS_no (fun st h => ?_) fun _ => rfl
    simp only [mS1] at h
    split at h
    · simp only [Bool.and_eq_true] at h
      obtain ⟨pI, hf⟩ := it_sound g ia.pe ib.pe (tup_tg h.1.1) h.1.2
      exact (ps_for g.po g.calm pI (g.tg h.1.1) (is.pss _ h.2) hf).imp fun D σ H z => rd_for z
    · cases h
  | wh vs n c s ihs =>
    intro X μ fb sc g
    have ic := soundE (T := T) (cs := cs) (C := C) (k := k) (N := N) c X μ fb sc g
    have is := ihs X μ fb sc g
    refine sndS_no (fun st h => ?_) fun _ => rfl
    simp only [mS1] at h
    split at h
    · simp only [Bool.and_eq_true] at h
      exact (ps_while g.po (ic.pt _ h.1) (is.pss _ h.2)).imp fun D σ H z => rd_wh z
    · cases h
  | ret e =>
    intro X μ fb sc g
    have ie := soundE (T := T) (cs := cs) (C := C) (k := k) (N := N) e X μ fb sc g
    refine sndS_no (fun st h => ?_) fun _ => rfl
    simp only [mS1] at h
    split at h
    · exact (ps_ret (ie.pe _ h)).imp fun D σ H z => rd_ret z
    · cases h
  | retN =>
    intro X μ fb sc g
    refine sndS_no (fun st h => ?_) fun _ => rfl
    simp only [mS1] at h
    split at h
    · exact ps_retN.imp fun D σ H z => rd_retN z
    · cases h
  | raise c e => intro X μ fb sc g; exact sndS_no (fun st h => nomatch h) fun _ => rfl
  | «try» vs s h ihs ihh => intro X μ fb sc g; exact sndS_no (fun st h => nomatch h) fun _ => rfl
  | hnil => intro X μ fb sc g; exact sndS_no (fun st h => nomatch h) fun _ => rfl
  | hcons c nm s r ihs ihr => intro X μ fb sc g; exact sndS_no (fun st h => nomatch h) fun _ => rfl
  | never => intro X μ fb sc g; exact sndS_no (fun st h => ps_never.imp fun D σ H z => rd_never z) fun _ => rfl
end
end En
end

section
set_option Elab.async false
set_option linter.all false
set_option maxRecDepth 100000
set_option maxHeartbeats 4000000
namespace En
open PySem PySem.Spec L2
variable [Wd]

/-! ### a def by its body -/
section
variable {O M : OS} {H : Hp}
theorem getS_cons {s : Option (Sm × D)} {env : Env} {j : Nat} : getS (s :: env) (j + 1) = getS env j := rfl
theorem getS_zero {s : Option (Sm × D)} {env : Env} : getS (s :: env) 0 = s := by cases s <;> rfl
theorem ArgL.get {pm : List Sm} {rs : List Val} {vs : List V} {env : Env} (h : ArgL O M H pm rs vs env) :
    (∀ j d, getS env j = some (.sh, d) → ∃ v, vs[j]? = some v ∧ Rp H O v d) ∧ (∀ j m d, getS env j = some (m, d) → m ≠ .sh → m = .mu ∧ pm[j]? = some .mu ∧ ∃ a, vs[j]? = some (.ref a) ∧ O a ∧ M a ∧ OwnT H O a d) ∧ env.length = vs.length ∧ pm.length = vs.length := by
  induction h with
  | nil => exact ⟨fun j d h => (by simp [getS] at h), fun j m d h => (by simp [getS] at h), rfl, rfl⟩
  | sh hl hr _ ih =>
    obtain ⟨i1, i2, i3, i4⟩ := ih
    refine ⟨fun j d' h => ?_, fun j m d' h hm => ?_, by simp [i3], by simp [i4]⟩
    · cases j with
      | zero => rw [getS_zero] at h; cases h; exact ⟨_, rfl, hr⟩
      | succ j => rw [getS_cons] at h; simpa using i1 j d' h
    · cases j with
      | zero => rw [getS_zero] at h; cases h; exact absurd rfl hm
      | succ j => rw [getS_cons] at h; simpa using i2 j m d' h hm
  | mu ho hM ht _ ih =>
    obtain ⟨i1, i2, i3, i4⟩ := ih
    refine ⟨fun j d' h => ?_, fun j m d' h hm => ?_, by simp [i3], by simp [i4]⟩
    · cases j with
      | zero => rw [getS_zero] at h; cases h
      | succ j => rw [getS_cons] at h; simpa using i1 j d' h
    · cases j with
      | zero => rw [getS_zero] at h; cases h; exact ⟨rfl, rfl, _, rfl, ho, hM, ht⟩
      | succ j => rw [getS_cons] at h; simpa using i2 j m d' h hm
  | muF ho hM ht =>
    refine ⟨fun j d' h => ?_, fun j m d' h hm => ?_, rfl, rfl⟩
    · cases j with
      | zero => rw [getS_zero] at h; cases h
      | succ j => rw [getS_cons] at h; simp [getS] at h
    · cases j with
      | zero => rw [getS_zero] at h; cases h; exact ⟨rfl, rfl, _, rfl, ho, hM, ht⟩
      | succ j => rw [getS_cons] at h; simp [getS] at h
theorem oneMu_ix : ∀ {pm : List Sm} {i j : Nat}, oneMu pm = true → pm[i]? = some .mu → pm[j]? = some .mu → i = j := by
  intro pm
  induction pm with
  | nil => intro i j _ h; simp at h
  | cons m pm ih =>
    intro i j h hi hj
    have nomu : ∀ (l : List Sm) (k : Nat), l.contains .mu = false → l[k]? ≠ some .mu := fun l k hl hk => by
      have := List.mem_of_getElem? hk
      rw [List.contains_iff_mem.mpr this] at hl; cases hl
    cases m with
    | mu =>
      have hc : pm.contains .mu = false := by simpa [oneMu] using h
      cases i with
      | zero => cases j with
        | zero => rfl
        | succ j => exact absurd (by simpa using hj) (nomu pm j hc)
      | succ i => exact absurd (by simpa using hi) (nomu pm i hc)
    | sh =>
      cases i with
      | zero => simp at hi
      | succ i => cases j with
        | zero => simp at hj
        | succ j =>
          have q := ih (i := i) (j := j) (by simpa [oneMu] using h) (by simpa using hi) (by simpa using hj)
          rw [q]
    | ow =>
      cases i with
      | zero => simp at hi
      | succ i => cases j with
        | zero => simp at hj
        | succ j =>
          have q := ih (i := i) (j := j) (by simpa [oneMu] using h) (by simpa using hi) (by simpa using hj)
          rw [q]
theorem getS_app {env : Env} {n j : Nat} : getS (env ++ List.replicate n none) j = getS env j := by
  unfold getS
  by_cases h : j < env.length
  · rw [List.getElem?_append_left h]
  · rw [List.getElem?_append_right (by omega), List.getElem?_eq_none (l := env) (by omega), List.getElem?_replicate]
    split <;> rfl
theorem start_get {N : List Str} {vs : List V} {j : Nat} {v : V} (h : vs[j]? = some v) : (L2.start N vs)[j]? = some (some v) := by
  unfold L2.start
  have hl := (List.getElem?_eq_some_iff.mp h).1
  rw [List.getElem?_append_left (by simpa using hl), List.getElem?_map, h]; rfl
/-- the start of a def -/
theorem start_ok {pm : List Sm} {rs : List Val} {vs : List V} {env : Env} {N : List Str} (hO : ∀ a, O a → H a ≠ none) (hMO : ∀ a, M a → O a) (h1 : oneMu pm = true) (hN : vs.length ≤ N.length) (h : ArgL O M H pm rs vs env) :
    EvR (fun a => O a ∧ ¬ M a) H M (env ++ List.replicate (N.length - env.length) none) (L2.start N vs) H := by
  obtain ⟨g1, g2, g3, g4⟩ := h.get
  have wa : ∀ a, WA (env ++ List.replicate (N.length - env.length) none) (L2.start N vs) a → M a := fun a ⟨i, hi, hs⟩ => by
    obtain ⟨m, d, hg, hm⟩ := isOw_iff.mp hi
    rw [getS_app] at hg
    obtain ⟨_, _, b, hb, _, hM, _⟩ := g2 i m d hg hm
    rw [start_get hb] at hs
    cases hs
    exact hM
  have g : Goes1 H H O (All (fun a => O a ∧ ¬ M a) (env ++ List.replicate (N.length - env.length) none) (L2.start N vs)) := Goes1.less fun a z => z.elim (fun z => z.1) fun z => hMO a (wa a z)
  refine ⟨?_, fun i d hg => ?_, fun i m d hg hm => ?_, fun i j a hi hj si sj => ?_, fun a o h _ => h, fun a z => hO a z.1, fun a z => hO a (hMO a z)⟩
  · unfold L2.start
    rw [List.length_append, List.length_replicate, List.length_append, List.length_map, List.length_replicate, g3]
  · rw [getS_app] at hg
    obtain ⟨v, hv, r⟩ := g1 i d hg
    exact ⟨v, start_get hv, r.go g⟩
  · rw [getS_app] at hg
    obtain ⟨rfl, _, a, ha, hO', hM, ho⟩ := g2 i m d hg hm
    exact ⟨a, start_get ha, ho.go g fun o q => q, fun z => z.2 hM, fun z => (nomatch z), fun _ => hM⟩
  · obtain ⟨m, d, hg, hm⟩ := isOw_iff.mp hi
    obtain ⟨m', d', hg', hm'⟩ := isOw_iff.mp hj
    rw [getS_app] at hg hg'
    exact oneMu_ix h1 (g2 i m d hg hm).2.1 (g2 j m' d' hg' hm').2.1
theorem fin_at : ∀ {pm : List Sm} {env : Env} {d : D}, finS pm env = some d → ∃ j, pm[j]? = some .mu ∧ getS env j = some (.mu, d) := by
  intro pm
  induction pm with
  | nil => intro env d h; cases env <;> cases h
  | cons m pm ih =>
    intro env d h
    cases env with
    | nil => cases m <;> cases h
    | cons s env =>
      have step : finS pm env = some d → ∃ j, (m :: pm)[j]? = some .mu ∧ getS (s :: env) j = some (.mu, d) := fun h => by
        obtain ⟨j, h1, h2⟩ := ih h
        exact ⟨j + 1, by simpa using h1, by rw [getS_cons]; exact h2⟩
      cases m with
      | mu => cases s with
        | none => exact step h
        | some p =>
          obtain ⟨mm, dd⟩ := p
          cases mm with
          | mu => cases h; exact ⟨0, rfl, by rw [getS_zero]⟩
          | sh => exact step h
          | ow => exact step h
      | sh => exact step h
      | ow => exact step h
theorem fin_no : ∀ {pm : List Sm} {env : Env}, pm.contains .mu = false → finS pm env = none := by
  intro pm
  induction pm with
  | nil => intro env _; cases env <;> rfl
  | cons m pm ih =>
    intro env h
    cases m with
    | mu => simp at h
    | sh => cases env with
      | nil => rfl
      | cons s env => exact ih (by simpa using h)
    | ow => cases env with
      | nil => rfl
      | cons s env => exact ih (by simpa using h)
end
def Mo.with (μ : Mo) (E : XK) : Mo := { μ with W := fun cls d _ H => E cls d H }

section
variable {T : Tab} {cs : List (Str × D)} {C : Calls} {k : Nat} {μ : Mo} {P : Program} {w : World} {K : PySem.W.Frag} {mg : Str → Option Value} {base : Heap}
theorem body_post {F : Fn} {rs : List Val} {vs : List V} {env0 : Env} {O M : OS} {H : Hp} {Q : VK} {E : XK} (hO : ∀ a, O a → H a ≠ none) (hMO : ∀ a, M a → O a) (hMu : ∀ a b, M a → M b → a = b) (ha : argX F.pm rs = some env0) (h1 : oneMu F.pm = true) (hA : ArgL O M H F.pm rs vs env0)
    (hnm : F.pm.contains .mu = false → ∀ a, ¬ M a) (hP : PostC μ O M H Q E (runF C F rs)) (hN : vs.length ≤ F.N.length) :
    rdS (μ.with E) C F.body { nx := fun _ H' => Q .non H', rt := Q } (L2.start F.N vs) H := by
  have e0 := start_ok hO hMO h1 hN hA
  refine ⟨_, H, M, _, e0, ?_⟩
  simp only [runF, ha, h1, Bool.not_true, Bool.false_eq_true, if_false] at hP
  have sO : ∀ (env' : Env) (σ' : L2.St) (Ox : OS) (H' : Hp), (∀ a, O a ∧ ¬ M a → Ox a) → EvR Ox H M env' σ' H' → (F.pm.contains .mu = true → (finS F.pm env').isNone = false) → (∀ a, O a → All Ox env' σ' a) ∧ (∀ a, M a → ∃ d', finS F.pm env' = some d' ∧ OwnT H' (All Ox env' σ') a d') ∧ ((finS F.pm env') = none ↔ ∀ a, ¬ M a) :=
    fun env' σ' Ox H' so e' hf => by
      cases hc : F.pm.contains .mu with
      | false =>
        have nM := hnm hc
        exact ⟨fun a z => .inl (so a ⟨z, nM a⟩), fun a z => absurd z (nM a), ⟨fun _ => nM, fun _ => fin_no hc⟩⟩
      | true =>
        have hf' := hf hc
        cases hd : finS F.pm env' with
        | none => rw [hd] at hf'; cases hf'
        | some d' =>
          obtain ⟨j, hj1, hj2⟩ := fin_at hd
          obtain ⟨a, sa, oa, na, _, hM⟩ := e'.ow j .mu d' hj2 (by decide)
          have hMa := hM rfl
          have wa : WA env' σ' a := ⟨j, isOw_of hj2 (by decide), sa⟩
          refine ⟨fun b z => ?_, fun b hb => ?_, ⟨(fun z => nomatch z), fun z => absurd hMa (z a)⟩⟩
          · by_cases hb : M b
            · rw [hMu b a hb hMa]; exact .inr wa
            · exact .inl (so b ⟨z, hb⟩)
          · rw [hMu b a hb hMa]; exact ⟨d', rfl, oa⟩
  have fls : ∀ env', ¬ ((F.pm.contains .mu && (finS F.pm env').isNone) = true) → F.pm.contains .mu = true → (finS F.pm env').isNone = false := fun env' hn hc => by
    cases hq : (finS F.pm env').isNone with
    | false => rfl
    | true => exact absurd (by rw [hc, hq]; rfl) hn
  cases hm : evS C F.body (env0 ++ List.replicate (F.N.length - env0.length) none) with
  | stuck => rw [hm] at hP; exact hP.elim
  | nx env' =>
    rw [hm] at hP
    simp only at hP
    split at hP
    · exact hP.elim
    · rename_i hn
      intro σ' H' f s e'
      obtain ⟨s1, s2, s3⟩ := sO env' σ' _ H' (fun a z => z) e' (fls env' hn)
      exact hP s3 .non H' ⟨e'.pres, e'.mdom, .inl ⟨.non, rfl, .non, fun a z => let ⟨d', h1, h2⟩ := s2 a z; ⟨d', h1, h2.go (Goes1.less s1) fun o q => q⟩⟩⟩
  | rt r env' =>
    rw [hm] at hP
    simp only at hP
    split at hP
    · exact hP.elim
    · rename_i hn
      intro v σ' H' f rr
      obtain ⟨md, d⟩ := r
      cases md with
      | sh =>
        obtain ⟨e', rv⟩ := rr
        obtain ⟨s1, s2, s3⟩ := sO env' σ' _ H' (fun a z => z) e' (fls env' hn)
        exact hP s3 v H' ⟨e'.pres, e'.mdom, .inl ⟨d, rfl, rv.go (Goes1.less s1), fun a z => let ⟨d', h1, h2⟩ := s2 a z; ⟨d', h1, h2.go (Goes1.less s1) fun o q => q⟩⟩⟩
      | fr =>
        obtain ⟨p, rfl, h0, e', op⟩ := rr
        obtain ⟨s1, s2, s3⟩ := sO env' σ' _ H' (fun a z => .inl z) e' (fls env' hn)
        have s1' : ∀ a, plus O p a → All (plus (fun a => O a ∧ ¬ M a) p) env' σ' a := fun a z => z.elim (s1 a) fun z => .inl (.inr z)
        exact hP s3 _ H' ⟨e'.pres, e'.mdom, .inr ⟨d, p, rfl, rfl, h0, op.go (Goes1.less s1') fun o q => q, fun a z => let ⟨d', h1, h2⟩ := s2 a z; ⟨d', h1, h2.go (Goes1.less s1') fun o q => q⟩⟩⟩
      | bo => exact rr.elim
      | mu i => exact rr.elim
  | exc x env' =>
    rw [hm] at hP
    simp only at hP
    split at hP
    · exact hP.elim
    · rename_i hn
      obtain ⟨nM, hE⟩ := hP
      intro cls dx σ' H' f e' xr
      refine hE cls dx H' (fun a o h => e'.pres a o h (nM a)) (μ.mono _ _ _ _ _ _ (fun a z => .inl ⟨z, nM a⟩) xr)
theorem def_ok {F : Fn} {qual : Str} {st : Stmt} {fa : Addr} {fd : FuncData} {ps : List Str} (Fu : Fun K F.name qual st fa fd) (S : FnScope F.N ps (defScope st)) (hm : mS T cs F.N (fun _ => true) (defScope st) F.body (defBody st) = true) (hl : F.pm.length = ps.length) (hpl : ps.length ≤ F.N.length)
    (hw : w = Wd.wd) (mod : ModOk T cs C k P w K mg base μ) : FnOk P w K mg base (L2.CX P w) (k + 1) fa fd ps (spC μ (fun rs => runF C F rs) F.pm) := by
  refine Fu.okX S (fun vs H Q E h => ?_) fun cdv A outer s H vs Q E hr h => ?_
  · obtain ⟨O, M, rs, env0, _, _, _, _, _, hA, _⟩ := h
    rw [← hl, hA.get.2.2.2]
  · obtain ⟨O, M, rs, env0, hO, hMO, hMu, ha, h1, hA, hnm, hP⟩ := h
    refine ⟨rdS (μ.with E) C F.body, ?_, body_post hO hMO hMu ha h1 hA hnm hP (by rw [← hA.get.2.2.2, hl]; exact hpl)⟩
    have g : Good T cs C k F.N (cxOf (L2.CX P w) P w K mg base F.N qual (defScope st) fa cdv A outer s H E) (μ.with E) (fun _ => true) (defScope st) :=
      ⟨rfl, S.nd, rfl, hw, rfl, hr, takes_of rfl rfl rfl rfl, passes_of rfl, fun _ _ => rfl, ⟨mod.blt, mod.gls, mod.arg, mod.val, mod.exx, mod.fns⟩⟩
    exact (soundS F.body _ _ _ _ g).pss _ hm
end
end En
end

section
set_option Elab.async false
set_option linter.all false
set_option maxRecDepth 100000
set_option maxHeartbeats 4000000
namespace En
open PySem PySem.Spec L2

/-! ### what a def gives back -/
theorem low_md {v : Val} {d : D} (h : low v = some d) : v.1 = .sh ∨ v.1 = .fr := by
  obtain ⟨m, x⟩ := v
  cases m with
  | sh => exact .inl rfl
  | fr => exact .inr rfl
  | bo => cases h
  | mu i => cases h
theorem toS_rt {α : Type} {m : R α} {f : α → Env → RS} {r : Val} {env' : Env} (h : m.toS f = .rt r env') : ∃ a env1, f a env1 = .rt r env' := by
  cases m with
  | ok a env => exact ⟨a, env, h⟩
  | exc => cases h
  | stuck => cases h
theorem ofE_rt {o : Option Env} {r : Val} {env' : Env} (h : ofE o = .rt r env') : False := by
  cases o <;> cases h
abbrev OkR (f : Env → RS) : Prop := ∀ env r env', f env = .rt r env' → r.1 = .sh ∨ r.1 = .fr
theorem forL_rt {tg : Tg} {f : Env → RS} (hf : OkR f) : ∀ xs, OkR (forL tg f xs) := by
  intro xs
  induction xs with
  | nil => intro env r env' h; cases h
  | cons x xs ih =>
    intro env r env' h
    unfold forL at h
    split at h
    · cases h
    · split at h
      · exact ih _ _ _ h
      · exact hf _ _ _ h
theorem whL_rt {c : Env → R Val} {f : Env → RS} (hf : OkR f) : ∀ n, OkR (whL c f n) := by
  intro n
  induction n with
  | zero => intro env r env' h; cases h
  | succ n ih =>
    intro env r env' h
    unfold whL at h
    split at h
    · split at h
      · exact ih _ _ _ h
      · exact hf _ _ _ h
    · cases h
    · cases h
    · cases h
theorem forCL_rt {f : D → R Val} {b : D} {env : Env} {j : Nat} : ∀ xs r env', forCL f b env j xs = .rt r env' → r.1 = .sh ∨ r.1 = .fr := by
  intro xs
  induction xs with
  | nil => intro r env' h; cases h
  | cons x xs ih =>
    intro r env' h
    unfold forCL at h
    split at h
    · cases h; exact .inl rfl
    · exact ih _ _ h
    · cases h
theorem hard_rt {m : RS} {r : Val} {env' : Env} (h : m.hard = .rt r env') : m = .rt r env' := by
  cases m with
  | exc => cases h
  | _ => exact h
theorem evSH_rt {C : Calls} : ∀ s : S, OkR (evS C s) ∧ ∀ x, OkR (evH C s x) := by
  intro s
  have noH : ∀ {s : S}, (∀ x env, evH C s x env = .stuck ∨ evH C s x env = .exc x env) → ∀ x, OkR (evH C s x) := fun {s} h x env r env' q => by
    rcases h x env with z | z <;> (rw [z] at q; cases q)
  have noS : ∀ {s : S}, (∀ env r env', evS C s env = .rt r env' → False) → OkR (evS C s) := fun {s} h env r env' q => (h env r env' q).elim
  induction s with
  | skip => exact ⟨noS fun env r env' h => (nomatch h), noH fun _ _ => .inl rfl⟩
  | seq s t ihs iht =>
    refine ⟨fun env r env' h => ?_, noH fun _ _ => .inl rfl⟩
    simp only [evS] at h
    split at h
    · exact iht.1 _ _ _ h
    · exact ihs.1 _ _ _ h
  | asg i ow e =>
    refine ⟨noS fun env r env' h => ?_, noH fun _ _ => .inl rfl⟩
    simp only [evS] at h
    obtain ⟨v, env1, h⟩ := toS_rt h
    repeat' split at h
    all_goals cases h
  | asgM i e =>
    refine ⟨noS fun env r env' h => ?_, noH fun _ _ => .inl rfl⟩
    simp only [evS] at h
    obtain ⟨v, env1, h⟩ := toS_rt h
    repeat' split at h
    all_goals cases h
  | asgT is e =>
    refine ⟨noS fun env r env' h => ?_, noH fun _ _ => .inl rfl⟩
    simp only [evS] at h
    obtain ⟨v, env1, h⟩ := toS_rt h
    split at h
    · exact (ofE_rt h).elim
    · exact (ofE_rt h).elim
    · cases h
  | asgP i j a b =>
    refine ⟨noS fun env r env' h => ?_, noH fun _ _ => .inl rfl⟩
    simp only [evS] at h
    obtain ⟨v, env1, h⟩ := toS_rt h
    obtain ⟨v, env1, h⟩ := toS_rt h
    split at h
    · split at h
      · cases h
      · exact (ofE_rt h).elim
    · cases h
  | aug i e =>
    refine ⟨noS fun env r env' h => ?_, noH fun _ _ => .inl rfl⟩
    simp only [evS] at h
    split at h
    · cases h
    · obtain ⟨v, env1, h⟩ := toS_rt h
      repeat' split at h
      all_goals cases h
  | setI i k e =>
    refine ⟨noS fun env r env' h => ?_, noH fun _ _ => .inl rfl⟩
    simp only [evS] at h
    obtain ⟨v, env1, h⟩ := toS_rt h
    split at h
    · cases h
    · obtain ⟨v, env1, h⟩ := toS_rt h
      repeat' split at h
      all_goals cases h
  | app i e =>
    refine ⟨noS fun env r env' h => ?_, noH fun _ _ => .inl rfl⟩
    simp only [evS] at h
    split at h
    · cases h
    · obtain ⟨v, env1, h⟩ := toS_rt h
      repeat' split at h
      all_goals cases h
  | clear i =>
    refine ⟨noS fun env r env' h => ?_, noH fun _ _ => .inl rfl⟩
    simp only [evS] at h
    repeat' split at h
    all_goals cases h
  | frz is => exact ⟨noS fun env r env' h => (nomatch h), noH fun _ _ => .inl rfl⟩
  | forC i j c b =>
    refine ⟨fun env r env' h => ?_, noH fun _ _ => .inl rfl⟩
    simp only [evS] at h
    split at h
    · split at h
      · cases h
      · exact forCL_rt _ _ _ h
    · cases h
  | forD vs i tg k s ih =>
    refine ⟨fun env r env' h => ?_, noH fun _ _ => .inl rfl⟩
    simp only [evS] at h
    split at h
    · split at h
      · split at h
        · exact forL_rt ih.1 _ _ _ _ (hard_rt h)
        · cases h
      · cases h
    · cases h
  | ex e =>
    refine ⟨noS fun env r env' h => ?_, noH fun _ _ => .inl rfl⟩
    simp only [evS] at h
    obtain ⟨v, env1, h⟩ := toS_rt h
    cases h
  | ite c s t ihs iht =>
    refine ⟨fun env r env' h => ?_, noH fun _ _ => .inl rfl⟩
    simp only [evS] at h
    obtain ⟨v, env1, h⟩ := toS_rt h
    split at h
    · exact ihs.1 _ _ _ h
    · exact iht.1 _ _ _ h
    · cases h
  | iteJ vs c s t ihs iht =>
    refine ⟨fun env r env' h => ?_, noH fun _ _ => .inl rfl⟩
    simp only [evS] at h
    obtain ⟨v, env1, h⟩ := toS_rt h
    split at h
    · exact ihs.1 _ _ _ h
    · exact iht.1 _ _ _ h
    · cases h
  | «for» vs tg k a b s ih =>
    refine ⟨fun env r env' h => ?_, noH fun _ _ => .inl rfl⟩
    simp only [evS] at h
    obtain ⟨v, env1, h⟩ := toS_rt h
    exact forL_rt ih.1 _ _ _ _ h
  | wh vs n c s ih =>
    refine ⟨fun env r env' h => ?_, noH fun _ _ => .inl rfl⟩
    simp only [evS] at h
    exact whL_rt ih.1 _ _ _ _ h
  | ret e =>
    refine ⟨fun env r env' h => ?_, noH fun _ _ => .inl rfl⟩
    simp only [evS] at h
    obtain ⟨v, env1, h⟩ := toS_rt h
    split at h
    · rename_i hl
      cases h
      exact low_md hl
    · cases h
  | retN => exact ⟨fun env r env' h => (by cases h; exact .inl rfl), noH fun _ _ => .inl rfl⟩
  | never => exact ⟨noS fun env r env' h => (nomatch h), noH fun _ _ => .inl rfl⟩
  | raise c e =>
    refine ⟨noS fun env r env' h => ?_, noH fun _ _ => .inl rfl⟩
    simp only [evS] at h
    obtain ⟨v, env1, h⟩ := toS_rt h
    repeat' split at h
    all_goals cases h
  | «try» vs s h ihs ihh =>
    refine ⟨fun env r env' q => ?_, noH fun _ _ => .inl rfl⟩
    simp only [evS] at q
    split at q
    · exact ihh.2 _ _ _ _ q
    · exact ihs.1 _ _ _ q
  | hnil => exact ⟨noS fun env r env' h => (nomatch h), noH fun _ _ => .inr rfl⟩
  | hcons c nm s r ihs ihr =>
    refine ⟨noS fun env r env' h => (nomatch h), fun x env v env' h => ?_⟩
    simp only [evH] at h
    split at h
    · split at h
      · exact ihs.1 _ _ _ h
      · split at h
        · cases h
        · split at h
          · split at h <;> cases h
          · rename_i hq; cases h; exact ihs.1 _ _ _ hq
          · cases h
          · cases h
    · exact ihr.2 _ _ _ _ h
theorem evS_rt {C : Calls} (s : S) : OkR (evS C s) := (evSH_rt s).1
theorem runF_val {C : Calls} {F : Fn} {rs : List Val} {r : Val} {fin : Option D} (h : runF C F rs = .ok r fin) : r.1 = .sh ∨ r.1 = .fr := by
  unfold runF at h
  split at h
  · cases h
  · split at h
    · cases h
    · split at h
      · split at h
        · cases h
        · cases h; exact .inl rfl
      · rename_i hr
        split at h
        · cases h
        · cases h; exact evS_rt _ _ _ _ hr
      · split at h <;> cases h
      · cases h
theorem runF_arg {C : Calls} {F : Fn} {rs : List Val} (h : runF C F rs ≠ .stuck) : ∃ env0, argX F.pm rs = some env0 ∧ oneMu F.pm = true := by
  unfold runF at h
  split at h
  · exact absurd rfl h
  · rename_i e he
    split at h
    · exact absurd rfl h
    · rename_i ho
      exact ⟨e, he, by simpa using ho⟩

theorem runF_exc {C : Calls} {F : Fn} {rs : List Val} {x : D} (h : runF C F rs = .exc x) : F.pm.contains .mu = false := by
  unfold runF at h
  split at h
  · cases h
  · split at h
    · cases h
    · split at h
      · split at h <;> cases h
      · split at h <;> cases h
      · split at h
        · cases h
        · rename_i hn; simpa using hn
      · cases h

/-! ### the table -/
structure Row where
  F : Fn
  st : Stmt
  ps : List Str
structure Stat (T : Tab) (cs : List (Str × D)) (r : Row) : Prop where
  mt : mS T cs r.F.N (fun _ => true) (defScope r.st) r.F.body (defBody r.st) = true
  sc : FnScope r.F.N r.ps (defScope r.st)
  l1 : r.F.pm.length = r.ps.length
  l2 : r.ps.length ≤ r.F.N.length
  bd : ∀ (kV doc pm : Value) (an : Option Addr) (cdv ct : Value) (us : List Value), us.length = r.ps.length → bindArgs (PySem.W.fnOf r.F.name r.F.name (defArgs r.st) (defBody r.st) (defScope r.st) .none kV doc pm an cdv ct) ⟨us, []⟩ = pure (r.ps.zip us)
def tabOf (rows : List Row) : Tab := rows.map fun r => (r.F.name, r.F)
theorem tabOf_at : ∀ {rows : List Row} {f : Str} {F : Fn}, (tabOf rows).lookup f = some F → ∃ r ∈ rows, r.F = F ∧ F.name = f := by
  intro rows
  induction rows with
  | nil => intro f F h; cases h
  | cons r rows ih =>
    intro f F h
    unfold tabOf at h
    rw [List.map_cons, List.lookup_cons] at h
    split at h
    · rename_i e
      cases h
      exact ⟨r, .head _, rfl, (beq_iff_eq.mp e).symm⟩
    · obtain ⟨r', hr, h1, h2⟩ := ih h
      exact ⟨r', .tail _ hr, h1, h2⟩
structure Facts (cs : List (Str × D)) (rows : List Row) (K : PySem.W.Frag) (mg : Str → Option Value) : Prop where
  blt : ∀ x, x ∈ bnames → mg x = none
  gls : ∀ x d, (x, d) ∈ cs → ∃ u v, mg x = some u ∧ flatD d = some v ∧ RelV v u
  fns : ∀ r ∈ rows, ∃ fa fd, mg r.F.name = some (.ref fa) ∧ Fun K r.F.name r.F.name r.st fa fd
section
variable {cs : List (Str × D)} {rows : List Row} {P : Program} {w : World} {K : PySem.W.Frag} {mg : Str → Option Value} {base : Heap} {μ : Mo}
theorem mod_ok [Wd] (hw : w = Wd.wd) (F : Facts cs rows K mg) (st : ∀ r ∈ rows, Stat (tabOf rows) cs r) : ∀ k, ModOk (tabOf rows) cs (callN (tabOf rows) k) k P w K mg base μ := by
  intro k
  induction k with
  | zero =>
    refine ⟨F.blt, F.gls, fun f G _ rs h => absurd rfl h, fun f rs r fin h => (nomatch (show CR.stuck = .ok r fin from h)), fun f G _ rs x h => (nomatch (show CR.stuck = .exc x from h)), fun f G hG => ?_⟩
    obtain ⟨r, hr, rfl, rfl⟩ := tabOf_at hG
    obtain ⟨fa, fd, hm, Fu⟩ := F.fns r hr
    have s := st r hr
    have no : ∀ vs H Q E, ¬ spC μ (callN (tabOf rows) 0 r.F.name) r.F.pm vs H Q E := fun vs H Q E h => by
      obtain ⟨O, M, rs, env0, _, _, _, _, _, _, _, hP⟩ := h
      exact hP
    exact ⟨fa, fd, r.ps, hm, Fu.kp, Fu.binds s.bd, ⟨fun vs H Q E h => (no vs H Q E h).elim, fun A outer s H args us vs Q E _ _ _ _ h => (no vs H Q E h).elim⟩⟩
  | succ k ih =>
    refine ⟨F.blt, F.gls, fun f G hG rs h => ?_, fun f rs r fin h => ?_, fun f G hG rs x h => ?_, fun f G hG => ?_⟩
    · unfold callN at h
      simp only [hG] at h
      exact runF_arg h
    · unfold callN at h
      split at h
      · exact runF_val h
      · cases h
    · unfold callN at h
      simp only [hG] at h
      exact runF_exc h
    · have e : callN (tabOf rows) (k + 1) f = fun rs => runF (callN (tabOf rows) k) G rs := by
        funext rs
        show (match (tabOf rows).lookup f with | some F => runF (callN (tabOf rows) k) F rs | none => .stuck) = _
        rw [hG]
      rw [e]
      obtain ⟨r, hr, rfl, rfl⟩ := tabOf_at hG
      obtain ⟨fa, fd, hm, Fu⟩ := F.fns r hr
      have s := st r hr
      exact ⟨fa, fd, r.ps, hm, Fu.kp, Fu.binds s.bd, def_ok Fu s.sc s.mt s.l1 s.l2 hw ih⟩

/-! ### one object left out of the written part -/
def without (K : PySem.W.Frag) (a : Addr) : PySem.W.Frag := K.filter fun e => !(a == e.1)
theorem without_self {a : Addr} : ∀ K : PySem.W.Frag, (without K a).lookup a = none := by
  intro K
  induction K with
  | nil => rfl
  | cons e K ih =>
    obtain ⟨b, o⟩ := e
    unfold without
    rw [List.filter_cons]
    cases h : (a == b) with
    | true => simp only [h, Bool.not_true, Bool.false_eq_true, if_false]; exact ih
    | false => simp only [h, Bool.not_false, if_true, List.lookup_cons]; exact ih
theorem without_ne {a b : Addr} (n : b ≠ a) : ∀ K : PySem.W.Frag, (without K a).lookup b = K.lookup b := by
  intro K
  induction K with
  | nil => rfl
  | cons e K ih =>
    obtain ⟨c, o⟩ := e
    unfold without
    rw [List.filter_cons]
    cases h : (a == c) with
    | true =>
      simp only [h, Bool.not_true, Bool.false_eq_true, if_false, List.lookup_cons]
      have : (b == c) = false := beq_eq_false_iff_ne.mpr fun z => n (z.trans (beq_iff_eq.mp h).symm)
      rw [this]; exact ih
    | false =>
      simp only [h, Bool.not_false, if_true, List.lookup_cons]
      split
      · rfl
      · exact ih
theorem without_in {a : Addr} {h : Heap} (X : K.In h) : (without K a).In h := fun b o e => by
  by_cases n : b = a
  · subst n; rw [without_self] at e; cases e
  · rw [without_ne n] at e; exact X b o e
theorem fun_without {a : Addr} {h : Heap} {x q : Str} {st : Stmt} {f : Addr} {fd : FuncData} {o : Obj} {its : Array Value} {n : Nat} (X : K.In h) (ha : h.get? a = some o) (hd : o.data = .seq its n) (Fu : Fun K x q st f fd) : Fun (without K a) x q st f fd := by
  obtain ⟨⟨oc, od, kV, doc, pm, an, cdv, ct, osl, rfl, lk, hcd⟩, kp⟩ := Fu
  have nf : f ≠ a := fun z => by
    subst z
    have := X _ _ lk
    rw [ha] at this
    cases this
    cases hd
  refine ⟨⟨oc, od, kV, doc, pm, an, cdv, ct, osl, rfl, by rw [without_ne nf]; exact lk, ?_⟩, ?_⟩
  · unfold PySem.W.codeIn at hcd ⊢
    split at hcd
    · rename_i c
      by_cases nc : c = a
      · subst nc
        split at hcd
        · rename_i l2
          have := X _ _ l2
          rw [ha] at this
          cases this
          cases hd
        · cases hcd
      · rw [without_ne nc]; exact hcd
    · cases hcd
  · unfold PySem.W.keepIn
    simp only [without_ne nf, lk]
theorem Facts.without {a : Addr} {h : Heap} {o : Obj} {its : Array Value} {n : Nat} (X : K.In h) (ha : h.get? a = some o) (hd : o.data = .seq its n) (F : Facts cs rows K mg) : Facts cs rows (En.without K a) mg :=
  ⟨F.blt, F.gls, fun r hr => let ⟨fa, fd, hm, Fu⟩ := F.fns r hr; ⟨fa, fd, hm, fun_without X ha hd Fu⟩⟩

/-! ### the end of a law -/
def mo0 : Mo := ⟨fun _ _ _ _ => False, fun _ _ _ _ _ => False, fun _ _ _ _ _ _ _ h => h⟩
theorem ints_rp [Wd] {H : Hp} {O : OS} : ∀ ns : List Int, Rps H O (ns.map V.int) (ns.map D.int)
  | [] => .nil
  | n :: ns => .cons (.int n) (ints_rp ns)
theorem law_end {l : PySem.W.OpenLaw} {n k : Nat} {q : Program} {loose : List Str} {XP : (Str → Option Value) → Heap → Prop} {YP : World → Heap → Prop} {d : DefRec} {r : Row} {x : Str}
    (hn : l.most = some n) (hn2 : n ≤ sizeLine) (hdf : d.params.defaults = []) (hr : Room (k + 1) callerA)
    (st : ∀ r ∈ rows, Stat (tabOf rows) cs r) (hl : (tabOf rows).lookup d.name = some r.F) (hrm : r ∈ rows) (hps : r.ps = [x]) (hpm : r.F.pm = [.sh])
    (F : ∀ (w : World) (mg : Str → Option Value) (h : Heap), YP w h → h.Ns mainGlobals mg → ∃ K : PySem.W.Frag, K.In h ∧ Facts cs rows K mg)
    (run : ∀ ns : List Int, ns.length ≤ n → (∀ z ∈ ns, Builtin.Int.intBits z ≤ 1048576) → runF (callN (tabOf rows) k) r.F [(.sh, .lst (ns.map D.int))] = .ok (.sh, .bl true) none) :
    PySem.W.WalkO q loose XP YP l.row.toRowW d [] (fun f vs => PySem.call f vs) := by
  refine Att.attach_callB hn hdf fun w s₀ s₁ mg mb fa o pm cd doc a vs ns G Y ho hd hcd hmg hobj hints hlen hbits hg => ?_
  letI wdi : Wd := ⟨w⟩
  obtain ⟨K0, KX0, F0⟩ := F w mg _ Y G.T.g
  have F1 := F0.without KX0 hobj rfl
  have KX := without_in (a := a) KX0
  obtain ⟨r', _, _, hrn⟩ := tabOf_at hl
  obtain ⟨fa', fd, hm, Fu⟩ := F1.fns r hrm
  have s := st r hrm
  rw [hrn, hmg] at hm
  cases hm
  have bd : Binds (without K0 a) fd r.ps [] := Fu.binds s.bd
  have bd' : ∀ (s : Shared) (u : Value), BindsTo s fd ⟨[u], []⟩ [(x, u)] := fun sh u => by
    obtain ⟨oc, od, kV, doc, pm, an, cdv, ct, osl, rfl, lk, hcd⟩ := Fu.ex
    have := BindsTo.of_eq (s := sh) (s.bd kV doc pm an cdv ct [u] (by rw [hps]; rfl))
    rw [hps] at this
    exact this
  refine law_call (CX := L2.CX l.prog w) (k := k + 1) (x := x) (sp := spC mo0 (fun rs => runF (callN (tabOf rows) k) r.F rs) r.F.pm) KX G.T.g G.T.b G.T.builtins G.T.nolimit hg hobj hints (Nat.le_trans hlen hn2) hr
    (fun base _ _ => hps ▸ def_ok Fu s.sc s.mt s.l1 s.l2 rfl (mod_ok rfl F1 st k)) bd' (fun H hO hS => ?_) fun H e s' h => ?_
  · rcases hS with hS | ⟨o, its, m, lk, _⟩
    · refine ⟨fun _ => False, fun _ => False, [(.sh, .lst (ns.map D.int))], [some (.sh, .lst (ns.map D.int))], fun _ z => z.elim, fun _ z => z, fun _ _ z => z.elim, ?_, ?_, ?_, fun _ _ z => z, ?_⟩
      · rw [hpm]; rfl
      · rw [hpm]; rfl
      · rw [hpm]; exact .sh rfl (.lst (fun z => z) hS (ints_rp ns)) .nil
      · show PostC _ _ _ _ _ _ (runF (callN (tabOf rows) k) r.F [(.sh, .lst (ns.map D.int))])
        rw [run ns hlen hbits]
        intro _ v H' cr
        rcases cr.res with ⟨d, e, rv, _⟩ | ⟨d, p, e, _⟩
        · cases e; cases rv; rfl
        · cases e
    · rw [without_self] at lk; cases lk
  · obtain ⟨_, _, _, _, _, _, _, _, _, _, _, _, z⟩ := h
    exact z

/-! ### the head's facts -/
def faC : Str × D → He.Fa
  | (x, .int i) => .int x i
  | (x, .str z) => .str x z
  | (x, _) => .glo x
def okC : Str × D → Bool
  | (_, .int _) => true
  | (_, .str _) => true
  | _ => false
def fasOf (cs : List (Str × D)) (rows : List Row) : List He.Fa := (rows.map fun r => He.Fa.glo r.F.name) ++ ((rows.map fun r => He.Fa.keep r.F.name) ++ ((bnames.map He.Fa.free) ++ cs.map faC))
def fnsOf (rows : List Row) : List He.FnD := rows.map fun r => ⟨(r.F.name, none), r.F.name, r.F.name, defArgs r.st, defBody r.st, defScope r.st⟩
theorem says_mem {fa : List He.Fa} {fn : List He.FnD} (c : He.SaysE fa fn K) {f : He.Fa} (h : f ∈ fa) : f.ok K = true := by
  obtain ⟨i, hi⟩ := List.mem_iff_getElem?.mp h
  exact c.fact i hi
theorem facts_of {h : Heap} (X : K.In h) (G : h.Ns mainGlobals mg) (hc : cs.all okC = true) (c : He.SaysE (fasOf cs rows) (fnsOf rows) K) : Facts cs rows K mg := by
  refine ⟨fun x hx => He.free_ok X G (says_mem c ?_), fun x d hx => ?_, fun r hr => ?_⟩
  · exact List.mem_append_right _ (List.mem_append_right _ (List.mem_append_left _ (List.mem_map.mpr ⟨x, hx, rfl⟩)))
  · have m : faC (x, d) ∈ fasOf cs rows := List.mem_append_right _ (List.mem_append_right _ (List.mem_append_right _ (List.mem_map.mpr ⟨_, hx, rfl⟩)))
    have o := List.all_eq_true.mp hc _ hx
    cases d with
    | int i =>
      obtain ⟨t, e⟩ := He.int_ok X G (says_mem c m)
      exact ⟨_, .int i, e, rfl, ⟨t, rfl⟩⟩
    | str z =>
      obtain ⟨t, e⟩ := He.str_ok X G (says_mem c m)
      exact ⟨_, .str z, e, rfl, ⟨t, rfl⟩⟩
    | _ => cases o
  · have g := He.glo_ok X G (says_mem c (List.mem_append_left _ (List.mem_map.mpr ⟨r, hr, rfl⟩)))
    have k := He.keep_ok (says_mem c (List.mem_append_right _ (List.mem_append_left _ (List.mem_map.mpr ⟨r, hr, rfl⟩))))
    obtain ⟨i, hi⟩ := List.mem_iff_getElem?.mp (List.mem_map.mpr ⟨r, hr, rfl⟩ : (⟨(r.F.name, none), r.F.name, r.F.name, defArgs r.st, defBody r.st, defScope r.st⟩ : He.FnD) ∈ fnsOf rows)
    obtain ⟨oc, od, osl, kV, doc, pm, an, cdv, ct, lk, cd⟩ := c.def_ i hi
    exact ⟨He.ga K r.F.name, _, g, ⟨⟨oc, od, kV, doc, pm, an, cdv, ct, osl, rfl, lk, cd⟩, k⟩⟩
end
end En
end

section
set_option Elab.async false
set_option linter.all false
set_option maxRecDepth 100000
set_option maxHeartbeats 4000000
namespace En
open PySem

/-! ### the plain evaluator: no modes of values, what comes next is handed in -/
inductive P (α : Type) where
  | ok (a : α) | exc (x : D) | stuck
def P.bind {α β : Type} (p : P α) (f : α → P β) : P β := match p with
  | .ok a => f a
  | .exc x => .exc x
  | .stuck => .stuck
theorem P.bind_ok {α β : Type} (a : α) (f : α → P β) : (P.ok a).bind f = f a := rfl
theorem P.bind_exc {α β : Type} (x : D) (f : α → P β) : (P.exc x : P α).bind f = .exc x := rfl
theorem P.bind_stuck {α β : Type} (f : α → P β) : (P.stuck : P α).bind f = .stuck := rfl
abbrev CCalls := Str → List D → P (D × D)

section
variable {β : Type}
def oP (o : Option Val) (K : D → P β) : P β := match o with
  | some v => K v.2
  | none => .stuck
def asB (d : D) (K : Bool → P β) : P β := match d with
  | .bl b => K b
  | _ => .stuck
def asI (d : D) (K : Int → P β) : P β := match d with
  | .int b => K b
  | _ => .stuck
def asS (d : D) (K : Str → P β) : P β := match d with
  | .str b => K b
  | _ => .stuck
def asL (d : D) (K : List D → P β) : P β := match d with
  | .lst b => K b
  | _ => .stuck
def asT (d : D) (K : List D → P β) : P β := match d with
  | .tup b => K b
  | _ => .stuck
def asTL (d : D) (K : List D → P β) : P β := match d with
  | .tup b => K b
  | .lst b => K b
  | _ => .stuck
def asD (d : D) (K : List (D × D) → P β) : P β := match d with
  | .dic b => K b
  | _ => .stuck
def ldP (d : D) (K : P β) : P β := match d with
  | .lst _ => K
  | .dic _ => K
  | _ => .stuck
def ownP (d : D) (K L : P β) : P β := match d with
  | .lst _ => K
  | .dic _ => K
  | _ => L
def ifP (b : Bool) (K : P β) : P β := match b with
  | true => K
  | false => .stuck
def optP {α : Type} (o : Option α) (K : α → P β) : P β := match o with
  | some x => K x
  | none => .stuck
def fldP (v : D) (x : Str) (K : D → P β) : P β := match v with
  | .exc c d => ifP (fieldOf c == some x) (K d)
  | _ => .stuck
def joinC {γ : Type} (f : (γ → P β) → P β) (k : γ → P β) : P β := f k
def tryC {γ : Type} (p : P γ) (k : γ → P β) (h : D → P β) : P β := match p with
  | .ok a => k a
  | .exc x => h x
  | .stuck => .stuck
def loopC (f : List D → D → (List D → P β) → P β) : List D → List D → (List D → P β) → P β
  | [], st, K => K st
  | x :: xs, st, K => f st x fun st' => loopC f xs st' K
def whC (f : List D → (List D → P β) → (List D → P β) → P β) : Nat → List D → (List D → P β) → P β
  | 0, _, _ => .stuck
  | n + 1, st, K => f st (fun st' => whC f n st' K) K
def lcC (f : List D → D → (Option D → List D → P β) → P β) : List D → List D → List D → (List D → List D → P β) → P β
  | [], st, acc, K => K acc st
  | x :: xs, st, acc, K => f st x fun o st' => lcC f xs st' (match o with | some d => acc ++ [d] | none => acc) K
/-- looked at alone: an owned thing too -/
def bor (a : E) (env : Env) (r : (D → Env → P β) → P β) (K : D → Env → P β) : P β := match a with
  | .own i => (match getS env i with
    | some s => K s.2 env
    | none => .stuck)
  | _ => r K
def bndL : List Nat → List D → Env → (Env → P β) → P β
  | [], ds, env, K => (match ds with
    | [] => K env
    | _ :: _ => .stuck)
  | i :: is, ds, env, K => (match ds with
    | [] => .stuck
    | d :: r => bndL is r (setS env i (some (.sh, d))) K)
def bnd (t : Tg) (x : D) (env : Env) (K : Env → P β) : P β := match t with
  | .one i => K (setS env i (some (.sh, x)))
  | .many is => asTL x fun ds => bndL is ds env K
end
def inpE (a : E) (env : Env) : Bool := match a with
  | .own i => isOw env i
  | _ => false
/-- the slots' modes -/
def moOf (env : Env) (i : Nat) : Sm := match getS env i with
  | some s => s.1
  | none => .sh
def getA (env env' : Env) : List Nat → Option (List D)
  | [] => some []
  | i :: is => match getS env' i with
    | some s => if s.1 == moOf env i then (match getA env env' is with
      | some r => some (s.2 :: r)
      | none => none) else none
    | none => none
def putA (env e0 : Env) : List Nat → List D → Env
  | [], _ => e0
  | i :: is, st => putA env (setS e0 i (some (moOf env i, st.headD .non))) is st.tail
def contC (env : Env) (i : Nat) : D := match getS env i with
  | some s => s.2
  | none => .non
def refC (env : Env) : List (Option Nat × D) → List D
  | [] => []
  | (some i, _) :: r => contC env i :: refC env r
  | (none, d) :: r => d :: refC env r
def muC : List (Option Nat × D) → Option Nat
  | [] => none
  | (some i, _) :: _ => some i
  | (none, _) :: r => muC r
def muCk (env : Env) : List (Option Nat × D) → Bool
  | [] => true
  | (some i, _) :: r => isOw env i && muCk env r
  | (none, _) :: r => muCk env r
def sdp (kvs : List (D × D)) (k w : D) : List (D × D) := if (dget kvs k).isSome then kvs else dput kvs k w

/-! ### expressions -/
section
variable {β : Type}
/-- one of two ways to a value -/
def scC (t v : List Nat) (env : Env) (b : Bool) (f g : (D → Env → P β) → P β) (K : D → Env → P β) : P β :=
  joinC (fun k => bif b then f (fun d e => optP (getA env e v) fun st => k (d :: st)) else g (fun d e => optP (getA env e v) fun st => k (d :: st))) fun st => K (st.headD .non) (putA env (wipeE env t) v st.tail)
def cO (a : E) (r : (D → Env → P β) → P β) (env : Env) (K : Option Int → Env → P β) : P β := match a with
  | .nix => K none env
  | _ => r fun d env => asI d fun i => K (some i) env
def cI (C : CCalls) (k : ItK) (a b : E) (ra : Env → (D → Env → P β) → P β) (rb : Env → (D → Env → P β) → P β) (env : Env) (K : List D → Env → P β) : P β := ra env fun x env => match b with
  | .nix => optP (src1 k x) fun xs => ifP (szOk xs.length) (K xs env)
  | _ => rb env fun y env => optP (src2 k x y) fun xs => ifP (szOk xs.length) (K xs env)
end
mutual
def cE {β : Type} (C : CCalls) : E → Env → (D → Env → P β) → P β
  | .var i, env, K => (match getS env i with
    | some s => (match s.1 with
      | .sh => K s.2 env
      | _ => .stuck)
    | none => .stuck)
  | .own i, env, K => (match getS env i with
    | some s => (match s.1 with
      | .sh => K s.2 env
      | _ => .stuck)
    | none => .stuck)
  | .fz i, env, K => (match getS env i with
    | some s => (match s.1 with
      | .sh => K s.2 env
      | .ow => K s.2 (setS env i (some (.sh, s.2)))
      | .mu => .stuck)
    | none => .stuck)
  | .mv i, env, K => (match getS env i with
    | some s => (match s.1 with
      | .ow => ldP s.2 (K s.2 (setS env i none))
      | _ => .stuck)
    | none => .stuck)
  | .mut _, _, _ => .stuck
  | .lit d, env, K => K d env
  | .gl _ d, env, K => K d env
  | .un o a, env, K => bor a env (cE C a env) fun d env => oP (op1 o d) fun z => K z env
  | .bin o a b, env, K => bor a env (cE C a env) fun x env1 => ifP (!(inpE a env && !b.quiet)) (bor b env1 (cE C b env1) fun y env => oP (op2 o x y) fun z => K z env)
  | .sl a lo hi, env, K => bor a env (cE C a env) fun x env1 => ifP (!(inpE a env && !(lo.quiet && hi.quiet))) (cO lo (cE C lo env1) env1 fun l env => cO hi (cE C hi env) env fun h env => oP (opSl x l h) fun z => K z env)
  | .nix, env, K => K .non env
  | .chain o o' a b c, env, K => cE C a env fun x env => cE C b env fun y env => oP (op2 o x y) fun z => asB z fun t => scC (touchE c) (keepE c) env t (fun k => cE C c env fun w env => oP (op2 o' y w) fun z => k z env) (fun k => k (.bl false) env) K
  | .and a b, env, K => cE C a env fun x env => asB x fun t => scC (touchE b) (keepE b) env t (fun k => cE C b env k) (fun k => k (.bl false) env) K
  | .or a b, env, K => cE C a env fun x env => asB x fun t => scC (touchE b) (keepE b) env t (fun k => k (.bl true) env) (fun k => cE C b env k) K
  | .one a, env, K => cE C a env K
  | .not a, env, K => cE C a env fun x env => asB x fun t => K (.bl (!t)) env
  | .ite _ _ _, _, _ => .stuck
  | .nil, _, _ => .stuck
  | .cons _ _, _, _ => .stuck
  | .tup as, env, K => cA C as env fun vs env => K (.tup (vs.map (·.2))) env
  | .lst as, env, K => cA C as env fun vs env => K (.lst (vs.map (·.2))) env
  | .dic0, env, K => K (.dic []) env
  | .dic1 k v, env, K => cE C k env fun a env => cE C v env fun b env => asS a fun x => K (.dic [(.str x, b)]) env
  | .dic2 k v k' v', env, K => cE C k env fun a env => cE C v env fun b env => cE C k' env fun a' env => cE C v' env fun b' env => asS a fun x => asS a' fun x' => K (.dic (dput [(.str x, b)] (.str x') b')) env
  | .call f as, env, K => cA C as env fun vs env => ifP (muCk env vs) ((C f (refC env vs)).bind fun p => match muC vs with
    | none => K p.1 env
    | some i => K p.1 (setS env i (some (moOf env i, p.2))))
  | .lc own tg k a b c e, env, K => cI C k a b (cE C a) (cE C b) env fun xs env =>
    (fun (t : List Nat) (e0 : Env) => optP (getA env env t) fun st => lcC (fun st x k => bnd tg x (putA env e0 t st) fun e1 => cE C c e1 fun b e2 => asB b fun b => bif b then cE C e e2 fun d e3 => optP (getA env e3 t) fun st => k (some d) st else optP (getA env e2 t) fun st => k none st) xs st [] fun acc st => K (.lst acc) (putA env e0 t st))
      (touchE c ++ touchE e) (wipeE env (own.map (·.2) ++ (touchE c ++ touchE e)))
  | .get d k x, env, K => bor d env (cE C d env) fun v env1 => asD v fun kvs => ifP (!(!strK kvs || (inpE d env && !(k.quiet && x.quiet)))) (cE C k env1 fun kk env => cE C x env fun xx env => asS kk fun y => K ((dget kvs (.str y)).getD xx) env)
  | .pop i, env, K => (match getS env i with
    | some s => ifP (!(s.1 == .sh)) (asL s.2 fun ds => optP ds.getLast? fun d => K d (setS env i (some (s.1, .lst ds.dropLast))))
    | none => .stuck)
  | .popAt i k, env, K => cE C k env fun v env => asI v fun j => (match getS env i with
    | some s => ifP (!(s.1 == .sh)) (asL s.2 fun ds => ifP (szOk ds.length) (optP (L2.ixN ds.length j) fun n => optP ds[n]? fun d => K d (setS env i (some (s.1, .lst (ds.eraseIdx n))))))
    | none => .stuck)
  | .setdef i k x, env, K => cE C k env fun v env => cE C x env fun w env => asS v fun y => (match getS env i with
    | some s => ifP (!(s.1 == .sh)) (asD s.2 fun kvs => ifP (strK kvs && szOk (kvs.length + 1)) (K ((dget kvs (.str y)).getD w) (setS env i (some (s.1, .dic (sdp kvs (.str y) w))))))
    | none => .stuck)
  | .lend i a, env, K => (match getS env i with
    | some s => ifP (!(s.1 == .sh || !a.quiet || (touchE a).contains i || (touchE a).any (isOw env))) (cE C a (setS env i (some (.sh, s.2))) fun r _ => ifP r.pure (K r (wipeE env (touchE a))))
    | none => .stuck)
  | .fld x a, env, K => cE C a env fun v env => fldP v x fun d => K d env
  | .isC cs _ a, env, K => cE C a env fun v env => K (.bl (cs.any fun c => isCls c v)) env
  | .mkf c x a, env, K => cE C a env fun v env => ifP (fieldOf c == some x) (K v env)
  | .mkIs c _ b, env, K => K (.bl (subCls c b)) env
def cA {β : Type} (C : CCalls) : E → Env → (List (Option Nat × D) → Env → P β) → P β
  | .nil, env, K => K [] env
  | .cons a r, env, K => (match a with
    | .mut i => ifP (isOw env i) (cA C r env fun vs env => K ((some i, contC env i) :: vs) env)
    | _ => cE C a env fun d env => cA C r env fun vs env => K ((none, d) :: vs) env)
  | _, _, _ => .stuck
end

/-! ### statements -/
def augP {β : Type} (m : Sm) (x y : D) (K : D → P β) : P β := match m with
  | .sh => asI x fun a => asI y fun b => K (.int (a + b))
  | _ => asL x fun xs => asL y fun ys => ifP (szOk (xs.length + ys.length)) (K (.lst (xs ++ ys)))
def setP {β : Type} (d w v : D) (K : D → P β) : P β := match d with
  | .lst ds => asI w fun j => optP (L2.ixN ds.length j) fun n => K (.lst (ds.set n v))
  | .dic kvs => ifP (keyOk w && keysOk kvs w && valOk w v && szOk (kvs.length + 1)) (K (.dic (dput kvs w v)))
  | _ => .stuck
mutual
def cS {β : Type} (C : CCalls) : S → Env → (Env → P β) → (D → Env → P β) → P β
  | .skip, env, Kn, _ => Kn env
  | .seq s t, env, Kn, Kr => cS C s env (fun env => cS C t env Kn Kr) Kr
  | .asg i ow e, env, Kn, _ => cE C e env fun d env => match ow with
    | true => ldP d (Kn (setS env i (some (.ow, d))))
    | false => Kn (setS env i (some (.sh, d)))
  | .asgM i e, env, Kn, _ => cE C e env fun d env => ownP d (Kn (setS env i (some (.ow, d)))) (ifP d.pure (Kn (setS env i (some (.sh, d)))))
  | .asgT is e, env, Kn, _ => cE C e env fun d env => asTL d fun ds => bndL is ds env Kn
  | .asgP i j a b, env, Kn, _ => cE C a env fun x env => cE C b env fun y env => Kn (setS (setS env i (some (.sh, x))) j (some (.sh, y)))
  | .aug i e, env, Kn, _ => bor e env (cE C e env) fun y env => (match getS env i with
    | some s => augP s.1 s.2 y fun z => Kn (setS env i (some (s.1, z)))
    | none => .stuck)
  | .setI i k e, env, Kn, _ => cE C e env fun v env => cE C k env fun w env => (match getS env i with
    | some s => ifP (!(s.1 == .sh)) (setP s.2 w v fun z => Kn (setS env i (some (s.1, z))))
    | none => .stuck)
  | .app i e, env, Kn, _ => cE C e env fun v env => (match getS env i with
    | some s => ifP (!(s.1 == .sh)) (asL s.2 fun ds => ifP (szOk (ds.length + 1)) (Kn (setS env i (some (s.1, .lst (ds ++ [v]))))))
    | none => .stuck)
  | .clear i, env, Kn, _ => (match getS env i with
    | some s => ifP (!(s.1 == .sh)) (asL s.2 fun _ => Kn (setS env i (some (s.1, .lst []))))
    | none => .stuck)
  | .frz is, env, Kn, _ => Kn (frzE env is)
  | .forC i j c b, env, Kn, Kr => (match getS env i with
    | some s => asL s.2 fun ds => ifP (!(s.1 == .sh || i == j || !c.quiet || (touchE c).any (isOw env) || isOw env j || decide (env.length ≤ j) || !b.pure)) (loopC (fun st x k => cE C c (setS env j (some (.sh, x))) fun d _ => asB d fun t => bif t then Kr b (setS (wipeE env (touchE c)) j none) else k st) ds [] fun _ => Kn (setS (wipeE env (touchE c)) j none))
    | none => .stuck)
  | .forD vs i tg k s, env, Kn, Kr => (match getS env i with
    | some d => (match d.1 with
      | .sh => asD d.2 fun kvs => ifP k.dic (optP (src1 k (.dic kvs)) fun xs => ifP (szOk xs.length) (optP (getA env env vs) fun st =>
      loopC (fun st x k => bnd tg x (putA env (wipeE env (tgL tg ++ touchS s)) vs st) fun e1 => cS C s e1 (fun e2 => optP (getA env e2 vs) k) Kr) xs st fun st => Kn (putA env (wipeE env (tgL tg ++ touchS s)) vs st)))
      | _ => .stuck)
    | none => .stuck)
  | .ex e, env, Kn, _ => cE C e env fun _ env => Kn env
  | .ite c s t, env, Kn, Kr => cE C c env fun d env => asB d fun b => bif b then cS C s env Kn Kr else cS C t env Kn Kr
  | .iteJ vs c s t, env, Kn, Kr => cE C c env fun d env => asB d fun b => joinC (fun k => bif b then cS C s env (fun e' => optP (getA env e' vs) k) Kr else cS C t env (fun e' => optP (getA env e' vs) k) Kr)
      (fun st => Kn (putA env (wipeE env (touchS s ++ touchS t)) vs st))
  | .for vs tg k a b s, env, Kn, Kr => cI C k a b (cE C a) (cE C b) env fun xs env => optP (getA env env vs) fun st =>
      loopC (fun st x k => bnd tg x (putA env (wipeE env (tgL tg ++ touchS s)) vs st) fun e1 => cS C s e1 (fun e2 => optP (getA env e2 vs) k) Kr) xs st fun st => Kn (putA env (wipeE env (tgL tg ++ touchS s)) vs st)
  | .wh vs n c s, env, Kn, Kr => optP (getA env env vs) fun st => whC (fun st again done => cE C c (putA env (wipeE env (touchE c ++ touchS s)) vs st) fun d e1 => asB d fun b => bif b then cS C s e1 (fun e2 => optP (getA env e2 vs) again) Kr else optP (getA env e1 vs) done) n st
      fun st => Kn (putA env (wipeE env (touchE c ++ touchS s)) vs st)
  | .ret e, env, _, Kr => cE C e env Kr
  | .retN, env, _, Kr => Kr .non env
  | .never, _, _, _ => .stuck
  | .raise c e, env, _, _ => cE C e env fun d _ => ifP (fieldOf c).isSome (.exc (.exc c d))
  | .try vs s h, env, Kn, Kr => joinC (fun k => tryC (cS C s env (fun e' => optP (getA env e' vs) fun st => P.ok st) (fun _ _ => .stuck)) k (fun x => cH C h x (wipeE env (touchS s)) (fun e' => optP (getA env e' vs) k)))
      (fun st => Kn (putA env (wipeE env (touchS s ++ touchS h)) vs st))
  | .hnil, _, _, _ => .stuck
  | .hcons _ _ _ _, _, _, _ => .stuck
def cH {β : Type} (C : CCalls) : S → D → Env → (Env → P β) → P β
  | .hnil, x, _, _ => .exc x
  | .hcons c nm s r, x, env, Kn => bif isCls c x then (match nm with
    | none => cS C s env Kn (fun _ _ => .stuck)
    | some i => cS C s (setS env i (some (.sh, x))) (fun e' => Kn (setS e' i none)) (fun _ _ => .stuck)) else cH C r x env Kn
  | _, _, _, _ => .stuck
end

/-! ### written out -/
section
variable {β : Type}
def hd0 (st : List D) : D := st.headD .non
abbrev hd1 (st : List D) : D := st.tail.headD .non
abbrev hd2 (st : List D) : D := st.tail.tail.headD .non
abbrev hd3 (st : List D) : D := st.tail.tail.tail.headD .non
def join0 (f : P β → P β) (k : P β) : P β := joinC (γ := List D) (fun k => f (k [])) fun _ => k
def join1 (f : (D → P β) → P β) (k : D → P β) : P β := joinC (γ := List D) (fun k => f fun a => k [a]) fun st => k (st.headD .non)
def join2 (f : (D → D → P β) → P β) (k : D → D → P β) : P β := joinC (γ := List D) (fun k => f fun a b => k [a, b]) fun st => k (st.headD .non) (st.tail.headD .non)
def join3 (f : (D → D → D → P β) → P β) (k : D → D → D → P β) : P β := joinC (γ := List D) (fun k => f fun a b c => k [a, b, c]) fun st => k (st.headD .non) (st.tail.headD .non) (st.tail.tail.headD .non)
def loop0 (f : D → P β → P β) (xs : List D) (k : P β) : P β := loopC (fun _ x k => f x (k [])) xs [] fun _ => k
def loop1 (f : D → D → (D → P β) → P β) (xs : List D) (a : D) (k : D → P β) : P β := loopC (fun st x k => f (st.headD .non) x fun a => k [a]) xs [a] fun st => k (st.headD .non)
def loop2 (f : D → D → D → (D → D → P β) → P β) (xs : List D) (a b : D) (k : D → D → P β) : P β := loopC (fun st x k => f (st.headD .non) (st.tail.headD .non) x fun a b => k [a, b]) xs [a, b] fun st => k (st.headD .non) (st.tail.headD .non)
def loop3 (f : D → D → D → D → (D → D → D → P β) → P β) (xs : List D) (a b c : D) (k : D → D → D → P β) : P β := loopC (fun st x k => f (st.headD .non) (st.tail.headD .non) (st.tail.tail.headD .non) x fun a b c => k [a, b, c]) xs [a, b, c] fun st => k (st.headD .non) (st.tail.headD .non) (st.tail.tail.headD .non)
def wh0 (f : P β → P β → P β) (n : Nat) (k : P β) : P β := whC (fun _ ag dn => f (ag []) (dn [])) n [] fun _ => k
def wh1 (f : D → (D → P β) → (D → P β) → P β) (n : Nat) (a : D) (k : D → P β) : P β := whC (fun st ag dn => f (st.headD .non) (fun a => ag [a]) (fun a => dn [a])) n [a] fun st => k (st.headD .non)
def wh2 (f : D → D → (D → D → P β) → (D → D → P β) → P β) (n : Nat) (a b : D) (k : D → D → P β) : P β := whC (fun st ag dn => f (st.headD .non) (st.tail.headD .non) (fun a b => ag [a, b]) (fun a b => dn [a, b])) n [a, b] fun st => k (st.headD .non) (st.tail.headD .non)
def wh3 (f : D → D → D → (D → D → D → P β) → (D → D → D → P β) → P β) (n : Nat) (a b c : D) (k : D → D → D → P β) : P β := whC (fun st ag dn => f (st.headD .non) (st.tail.headD .non) (st.tail.tail.headD .non) (fun a b c => ag [a, b, c]) (fun a b c => dn [a, b, c])) n [a, b, c] fun st => k (st.headD .non) (st.tail.headD .non) (st.tail.tail.headD .non)
def lc0 (f : D → (Option D → P β) → P β) (xs : List D) (k : List D → P β) : P β := lcC (fun _ x k => f x fun o => k o []) xs [] [] fun acc _ => k acc
def lc1 (f : D → D → (Option D → D → P β) → P β) (xs : List D) (a : D) (k : List D → D → P β) : P β := lcC (fun st x k => f (st.headD .non) x fun o a => k o [a]) xs [a] [] fun acc st => k acc (st.headD .non)
def try0 (p : P (List D)) (h : P β → D → P β) (k : P β) : P β := joinC (γ := List D) (fun k => tryC p k fun x => h (k []) x) fun _ => k
def try1 (p : P (List D)) (h : (D → P β) → D → P β) (k : D → P β) : P β := joinC (γ := List D) (fun k => tryC p k fun x => h (fun a => k [a]) x) fun st => k (st.headD .non)
def try2 (p : P (List D)) (h : (D → D → P β) → D → P β) (k : D → D → P β) : P β := joinC (γ := List D) (fun k => tryC p k fun x => h (fun a b => k [a, b]) x) fun st => k (st.headD .non) (st.tail.headD .non)
def un0 (ds : List D) (k : P β) : P β := match ds with
  | [] => k
  | _ :: _ => .stuck
def un1 (ds : List D) (k : D → P β) : P β := match ds with
  | [] => .stuck
  | a :: r => un0 r (k a)
def un2 (ds : List D) (k : D → D → P β) : P β := match ds with
  | [] => .stuck
  | a :: r => un1 r (k a)
def un3 (ds : List D) (k : D → D → D → P β) : P β := match ds with
  | [] => .stuck
  | a :: r => un2 r (k a)
def un4 (ds : List D) (k : D → D → D → D → P β) : P β := match ds with
  | [] => .stuck
  | a :: r => un3 r (k a)
def un5 (ds : List D) (k : D → D → D → D → D → P β) : P β := match ds with
  | [] => .stuck
  | a :: r => un4 r (k a)
def un6 (ds : List D) (k : D → D → D → D → D → D → P β) : P β := match ds with
  | [] => .stuck
  | a :: r => un5 r (k a)
end

/-! ### defs -/
def argC : List Sm → List D → Option Env
  | [], [] => some []
  | m :: ms, d :: ds => (argC ms ds).map fun r => some (m, d) :: r
  | _, _ => none
def finC : List Sm → Env → Nat → Option D
  | .mu :: _, env, i => (match getS env i with
    | some s => (match s.1 with
      | .mu => some s.2
      | _ => none)
    | none => none)
  | _ :: ms, env, i => finC ms env (i + 1)
  | [], _, _ => some .non
def padN : List Str → Env → Env
  | [], env => env
  | _ :: ns, [] => none :: padN ns []
  | _ :: ns, s :: env => s :: padN ns env
def runC (C : CCalls) (F : Fn) (ds : List D) : P (D × D) := match argC F.pm ds with
  | none => .stuck
  | some env0 => cS C F.body (padN F.N env0) (fun env => optP (finC F.pm env 0) fun w => .ok (.non, w)) (fun d env => optP (finC F.pm env 0) fun w => .ok (d, w))
def callC (T : Tab) : Nat → CCalls
  | 0 => fun _ _ => .stuck
  | n + 1 => fun f ds => match T.lookup f with
    | some F => runC (callC T n) F ds
    | none => .stuck
end En
end

section
set_option Elab.async false
set_option linter.all false
set_option maxRecDepth 100000
set_option maxHeartbeats 4000000
namespace En
open PySem

/-! ### slots -/
theorem gSet {env : Env} {i j : Nat} {s : Option (Sm × D)} : getS (setS env i s) j = if j = i ∧ i < env.length then s else getS env j := by
  unfold getS setS
  by_cases h : j = i
  · subst h
    by_cases hl : j < env.length
    · rw [List.getElem?_set_self hl, if_pos ⟨rfl, hl⟩]; cases s <;> rfl
    · rw [List.getElem?_eq_none (by simpa using hl), if_neg (fun z => hl z.2), List.getElem?_eq_none (by simpa using hl)]
  · rw [List.getElem?_set_ne (Ne.symm h), if_neg (fun z => h z.1)]
theorem gLt {env : Env} {i : Nat} {s : Sm × D} (h : getS env i = some s) : i < env.length := by
  unfold getS at h
  rcases Nat.lt_or_ge i env.length with k | k
  · exact k
  · rw [List.getElem?_eq_none k] at h; cases h
theorem gSelf {env : Env} {i : Nat} {s : Option (Sm × D)} (h : i < env.length) : getS (setS env i s) i = s := by rw [gSet, if_pos ⟨rfl, h⟩]
theorem gNe {env : Env} {i j : Nat} {s : Option (Sm × D)} (h : j ≠ i) : getS (setS env i s) j = getS env j := by rw [gSet, if_neg fun z => h z.1]
theorem lSet {env : Env} {i : Nat} {s : Option (Sm × D)} : (setS env i s).length = env.length := List.length_set
theorem gWipe {env : Env} {vs : List Nat} {i : Nat} : getS (wipeE env vs) i = if i ∈ vs then none else getS env i := by
  induction vs with
  | nil => simp [wipeE]
  | cons v vs ih =>
    show getS (setS (wipeE env vs) v none) i = _
    rw [gSet]
    by_cases h : i = v
    · subst h
      by_cases hl : i < (wipeE env vs).length
      · rw [if_pos ⟨rfl, hl⟩, if_pos List.mem_cons_self]
      · have : getS (wipeE env vs) i = none := by
          unfold getS; rw [List.getElem?_eq_none (by omega)]; rfl
        rw [if_neg (fun z => hl z.2), if_pos List.mem_cons_self, this]
    · rw [if_neg (fun z => h z.1), ih]
      by_cases hm : i ∈ vs
      · rw [if_pos hm, if_pos (List.mem_cons_of_mem _ hm)]
      · rw [if_neg hm, if_neg (fun z => (List.mem_cons.mp z).elim h hm)]
theorem lWipe {env : Env} (vs : List Nat) : (wipeE env vs).length = env.length := by
  induction vs with
  | nil => rfl
  | cons v vs ih => show ((wipeE env vs).set v none).length = _; rw [List.length_set, ih]

/-! ### what is known of the slots -/
structure Rl (Ow Mu : List Nat) (c d : Env) : Prop where
  len : c.length = d.length
  at' : ∀ i s, getS c i = some s → getS d i = some s
  ow : ∀ i, isOw d i = true → i ∈ Ow
  mu : ∀ i, isMu d i = true → i ∈ Mu
structure Ag (t : List Nat) (c c' : Env) : Prop where
  len : c'.length = c.length
  at' : ∀ i, i ∉ t → getS c' i = getS c i
theorem Ag.rfl' {t : List Nat} {c : Env} : Ag t c c := ⟨rfl, fun _ _ => rfl⟩
theorem Ag.app {t u : List Nat} {a b c : Env} (h : Ag t a b) (k : Ag u b c) : Ag (t ++ u) a c := ⟨k.len.trans h.len, fun i hi => by
  rw [k.at' i fun z => hi (List.mem_append_right _ z), h.at' i fun z => hi (List.mem_append_left _ z)]⟩
theorem Ag.mono {t u : List Nat} {a b : Env} (h : Ag t a b) (k : ∀ i, i ∈ t → i ∈ u) : Ag u a b := ⟨h.len, fun i hi => h.at' i fun z => hi (k i z)⟩
section
variable {Ow Mu : List Nat} {c c' d d' : Env}
theorem Rl.wipe {t : List Nat} (r : Rl Ow Mu c d) : Rl Ow Mu (wipeE c t) d where
  len := by rw [lWipe]; exact r.len
  at' := fun i s h => by
    rw [gWipe] at h
    split at h
    · cases h
    · exact r.at' i s h
  ow := r.ow
  mu := r.mu
/-- from what is known behind, what was known ahead but what may be changed -/
theorem Rl.back {t : List Nat} (r : Rl Ow Mu c' d) (h : Ag t c c') : Rl Ow Mu (wipeE c t) d where
  len := by rw [lWipe, ← h.len]; exact r.len
  at' := fun i s q => by
    rw [gWipe] at q
    split at q
    · cases q
    · rename_i n
      exact r.at' i s (by rw [h.at' i n]; exact q)
  ow := r.ow
  mu := r.mu
theorem Rl.wback {t u : List Nat} (r : Rl Ow Mu (wipeE c' u) d) (h : Ag t c c') : Rl Ow Mu (wipeE c (t ++ u)) d where
  len := by have := r.len; rw [lWipe, h.len] at this; rw [lWipe]; exact this
  at' := fun i s q => by
    rw [gWipe] at q
    split at q
    · cases q
    · rename_i n
      refine r.at' i s ?_
      rw [gWipe, if_neg (fun z => n (List.mem_append_right _ z)), h.at' i (fun z => n (List.mem_append_left _ z))]; exact q
  ow := r.ow
  mu := r.mu
theorem Rl.wmono {t u : List Nat} (r : Rl Ow Mu (wipeE c t) d) (k : ∀ i, i ∈ t → i ∈ u) : Rl Ow Mu (wipeE c u) d where
  len := by rw [lWipe, ← lWipe (env := c) t]; exact r.len
  at' := fun i s q => by
    rw [gWipe] at q
    split at q
    · cases q
    · rename_i n
      refine r.at' i s ?_
      rw [gWipe, if_neg (fun z => n (k i z))]; exact q
  ow := r.ow
  mu := r.mu
theorem isOw_at {i : Nat} {s : Sm × D} (h : getS c i = some s) : isOw c i = !(s.1 == .sh) := by
  unfold isOw; rw [h]; obtain ⟨m, x⟩ := s; cases m <;> rfl
theorem isMu_at {i : Nat} {s : Sm × D} (h : getS c i = some s) : isMu c i = (s.1 == .mu) := by
  unfold isMu; rw [h]; obtain ⟨m, x⟩ := s; cases m <;> rfl
theorem isOw_no' {i : Nat} (h : getS c i = none) : isOw c i = false := by unfold isOw; rw [h]
theorem isMu_no {i : Nat} (h : getS c i = none) : isMu c i = false := by unfold isMu; rw [h]
/-- one slot is set on both sides -/
theorem Rl.set {i : Nat} {s : Option (Sm × D)} (r : Rl Ow Mu c d) (ho : ∀ m x, s = some (m, x) → m ≠ .sh → i ∈ Ow) (hm : ∀ x, s = some (.mu, x) → i ∈ Mu) : Rl Ow Mu (setS c i s) (setS d i s) where
  len := by rw [lSet, lSet]; exact r.len
  at' := fun j t h => by
    rw [gSet] at h ⊢
    rw [← r.len]
    split at h
    · rename_i q; rw [if_pos q]; exact h
    · rename_i q; rw [if_neg q]; exact r.at' j t h
  ow := fun j h => by
    by_cases q : j = i ∧ i < d.length
    · obtain ⟨rfl, hl⟩ := q
      cases s with
      | none => rw [isOw_no' (gSelf hl)] at h; cases h
      | some p =>
        rw [isOw_at (gSelf hl)] at h
        obtain ⟨m, x⟩ := p
        refine ho m x rfl fun z => ?_
        rw [z] at h; cases h
    · refine r.ow j ?_
      unfold isOw at h ⊢
      rw [gSet, if_neg q] at h; exact h
  mu := fun j h => by
    by_cases q : j = i ∧ i < d.length
    · obtain ⟨rfl, hl⟩ := q
      cases s with
      | none => rw [isMu_no (gSelf hl)] at h; cases h
      | some p =>
        rw [isMu_at (gSelf hl)] at h
        obtain ⟨m, x⟩ := p
        have : m = .mu := by simpa using h
        subst this
        exact hm x rfl
    · refine r.mu j ?_
      unfold isMu at h ⊢
      rw [gSet, if_neg q] at h; exact h
theorem Ag.set {i : Nat} {s : Option (Sm × D)} {t : List Nat} (h : i ∈ t) : Ag t c (setS c i s) := ⟨lSet, fun j hj => gNe fun z => hj (by rw [z]; exact h)⟩
/-- the same slot, the same mode -/
theorem Rl.put {i : Nat} {m : Sm} {x y : D} (r : Rl Ow Mu c d) (h : getS c i = some (m, x)) : Rl Ow Mu (setS c i (some (m, y))) (setS d i (some (m, y))) :=
  r.set (fun m' z e k => r.ow i (by cases e; rw [isOw_at (r.at' i _ h)]; cases m <;> first | rfl | exact absurd rfl k)) (fun z e => r.mu i (by cases e; rw [isMu_at (r.at' i _ h)]; rfl))
theorem Rl.sh {i : Nat} {x : D} (r : Rl Ow Mu c d) : Rl Ow Mu (setS c i (some (.sh, x))) (setS d i (some (.sh, x))) :=
  r.set (fun m z e k => by cases e; exact absurd rfl k) (fun z e => by cases e)
theorem Rl.no {i : Nat} (r : Rl Ow Mu c d) : Rl Ow Mu (setS c i none) (setS d i none) := r.set (fun m z e => by cases e) (fun z e => by cases e)
end

/-! ### what a run of both says -/
def LD : D → Bool
  | .lst _ => true
  | .dic _ => true
  | _ => false
def lowV (v : Val) (d : D) : Prop := v.2 = d ∧ (v.1 = .sh ∨ (v.1 = .fr ∧ LD d = true))
theorem lowV.low {v : Val} {d : D} (h : lowV v d) : low v = some d := by
  obtain ⟨⟨m, x⟩, h⟩ := v, h
  obtain ⟨rfl, h | h⟩ := h
  · simp only at h; subst h; rfl
  · obtain ⟨h, _⟩ := h; simp only at h; subst h; rfl
theorem lowV.rdy {v : Val} {d : D} (h : lowV v d) : rdy v = some d := by
  obtain ⟨⟨m, x⟩, h⟩ := v, h
  obtain ⟨rfl, h | h⟩ := h
  · simp only at h; subst h; rfl
  · obtain ⟨h, _⟩ := h; simp only at h; subst h; rfl
theorem lowV.sh {v : Val} {d : D} (h : lowV v d) (k : LD d = false) : v = (.sh, d) := by
  obtain ⟨⟨m, x⟩, h⟩ := v, h
  obtain ⟨rfl, h | h⟩ := h
  · simp only at h; subst h; rfl
  · rw [h.2] at k; cases k
theorem lowV.inp {v : Val} {d : D} (h : lowV v d) : inp v = false := by
  obtain ⟨⟨m, x⟩, h⟩ := v, h
  obtain ⟨rfl, h | h⟩ := h
  · simp only at h; subst h; rfl
  · obtain ⟨h, _⟩ := h; simp only at h; subst h; rfl
theorem lowV.one (d : D) : lowV (.sh, d) d := ⟨rfl, .inl rfl⟩

structure Kx where
  T : Tab
  Fr : List Str
  Nx : List Str
  Ow : List Nat
  Mu : List Nat
  n : Nat
  sub : ∀ i, i ∈ Mu → i ∈ Ow
def Sim {α α' β : Type} (X : Kx) (V : α → α' → Prop) (K : α' → Env → P β) (env : Env) (t : List Nat) (nx : Bool) (p : P β) (r : R α) : Prop :=
  p = .stuck ∨ (∃ a a' c' d', r = .ok a d' ∧ V a a' ∧ Rl X.Ow X.Mu c' d' ∧ Ag t env c' ∧ p = K a' c') ∨ (∃ x d', r = .exc x d' ∧ Rl X.Ow X.Mu (wipeE env t) d' ∧ nx = false ∧ p = .exc x)
section
variable {X : Kx} {β : Type} {α α' γ γ' : Type} {V V2 : α → α' → Prop} {V' : γ → γ' → Prop} {K : α' → Env → P β} {env c' d' : Env} {t u : List Nat} {p : P β} {r : R α} {nx nb : Bool}
theorem Sim.no : Sim X V K env t nx (.stuck : P β) r := .inl rfl
theorem Sim.ok {a : α} {a' : α'} (v : V a a') (r : Rl X.Ow X.Mu c' d') (g : Ag t env c') : Sim X V K env t nx (K a' c') (.ok a d') := .inr (.inl ⟨a, a', c', d', rfl, v, r, g, rfl⟩)
theorem Sim.mono (h : Sim X V K env t nx p r) (k : ∀ i, i ∈ t → i ∈ u) (kn : nb = true → nx = true) : Sim X V K env u nb p r := by
  rcases h with h | ⟨a, a', c', d', h1, h2, h3, h4, h5⟩ | ⟨x, d', h1, h2, h4, h3⟩
  · exact .inl h
  · exact .inr (.inl ⟨a, a', c', d', h1, h2, h3, h4.mono k, h5⟩)
  · refine .inr (.inr ⟨x, d', h1, h2.wmono k, ?_, h3⟩)
    cases nb with
    | false => rfl
    | true => rw [kn rfl] at h4; cases h4
theorem Sim.weak (h : Sim X V K env t nx p r) (k : ∀ a a', V a a' → V2 a a') : Sim X V2 K env t nx p r := by
  rcases h with h | ⟨a, a', c', d', h1, h2, h3, h4, h5⟩ | ⟨x, d', h1, h2, h3⟩
  · exact .inl h
  · exact .inr (.inl ⟨a, a', c', d', h1, k _ _ h2, h3, h4, h5⟩)
  · exact .inr (.inr ⟨x, d', h1, h2, h3⟩)
/-- one after the other -/
theorem Sim.bind {K1 : α' → Env → P β} {K : γ' → Env → P β} {f : α → Env → R γ} (h : Sim X V K1 env t nx p r)
    (k : ∀ a a' c' d', V a a' → Rl X.Ow X.Mu c' d' → Ag t env c' → Sim X V' K c' u nb (K1 a' c') (f a d')) : Sim X V' K env (t ++ u) (nx && nb) p (r.bind f) := by
  rcases h with h | ⟨a, a', c', d', h1, h2, h3, h4, h5⟩ | ⟨x, d', h1, h2, h4, h3⟩
  · exact .inl h
  · rw [h1, h5]
    show Sim X V' K env (t ++ u) _ (K1 a' c') (f a d')
    rcases k a a' c' d' h2 h3 h4 with h | ⟨b, b', c2, d2, k1, k2, k3, k4, k5⟩ | ⟨x, d2, k1, k2, k4, k3⟩
    · exact .inl h
    · exact .inr (.inl ⟨b, b', c2, d2, k1, k2, k3, h4.app k4, k5⟩)
    · exact .inr (.inr ⟨x, d2, k1, k2.wback h4, by rw [k4, Bool.and_false], k3⟩)
  · rw [h1]
    exact .inr (.inr ⟨x, d', rfl, h2.wmono fun i z => List.mem_append_left _ z, by rw [h4, Bool.false_and], h3⟩)
/-- .. the last one changes nothing more -/
theorem Sim.bind0 {K1 : α' → Env → P β} {K : γ' → Env → P β} {f : α → Env → R γ} (h : Sim X V K1 env t nx p r)
    (k : ∀ a a' c' d', V a a' → Rl X.Ow X.Mu c' d' → Ag t env c' → Sim X V' K c' [] true (K1 a' c') (f a d')) : Sim X V' K env t nx p (r.bind f) := by
  have := Sim.bind h k
  rw [List.append_nil, Bool.and_true] at this
  exact this
end
end En
end

section
set_option Elab.async false
set_option linter.all false
set_option maxRecDepth 100000
set_option maxHeartbeats 4000000
namespace En
open PySem

/-! ### what is looked at ahead -/
def isMutE : E → Bool
  | .mut _ => true
  | _ => false
def argN : E → Nat
  | .cons _ r => argN r + 1
  | _ => 0
def noMutA : E → Bool
  | .cons a r => !isMutE a && noMutA r
  | _ => true
def argsAs : List Sm → E → Bool
  | [], .nil => true
  | .sh :: ms, .cons a r => !isMutE a && argsAs ms r
  | .mu :: ms, .cons a r => isMutE a && argsAs ms r
  | _, _ => false
/-- the last argument a new dict, the others names -/
def argsF : List Sm → E → Bool
  | [.mu], .cons .dic0 .nil => true
  | .sh :: ms, .cons (.var _) r => argsF ms r
  | _, _ => false
def isVarE : E → Bool
  | .var _ => true
  | _ => false
def nixB : E → Bool
  | .nix => true
  | _ => false
def cmpO : U2 → Bool
  | .lt | .le | .gt => true
  | _ => false
def nxE (Nx : List Str) : E → Bool
  | .un _ a | .one a | .not a | .tup a | .lst a | .fld _ a | .isC _ _ a | .mkf _ _ a | .popAt _ a | .lend _ a => nxE Nx a
  | .call f a => Nx.contains f && nxE Nx a
  | .bin _ a b | .and a b | .or a b | .cons a b | .dic1 a b | .setdef _ a b => nxE Nx a && nxE Nx b
  | .sl a b c | .chain _ _ a b c | .ite a b c | .get a b c => nxE Nx a && (nxE Nx b && nxE Nx c)
  | .dic2 a b c e => nxE Nx a && (nxE Nx b && (nxE Nx c && nxE Nx e))
  | .lc _ _ _ a b c e => nxE Nx a && nxE Nx b
  | _ => true
def frE (Fr : List Str) : E → Bool
  | .lst _ | .lc .. | .dic0 | .dic1 .. | .dic2 .. | .un .. | .bin .add _ _ | .sl .. | .mv _ => true
  | .call f _ => Fr.contains f
  | .lit d => !LD d
  | .tup _ => true
  | .not _ => true
  | _ => false
def inL (xs ys : List Nat) : Bool := xs.all fun i => ys.contains i
def outL (xs ys : List Nat) : Bool := xs.all fun i => !ys.contains i
def okE (X : Kx) : E → Bool
  | .var _ | .own _ | .fz _ | .mv _ | .mut _ | .lit _ | .gl _ _ | .nix | .nil | .dic0 | .pop _ | .mkIs _ _ _ => true
  | .un _ a | .one a | .not a | .fld _ a => okE X a
  | .popAt i a => okE X a && !(touchE a).contains i && nxE X.Nx a
  | .lend _ a => okE X a && outL (touchE a) X.Ow && nxE X.Nx a
  | .tup a | .lst a => okE X a && noMutA a && decide (argN a ≤ 1000)
  | .isC _ _ a => okE X a && isVarE a
  | .mkf _ _ a => okE X a
  | .call f a => okE X a && (match X.T.lookup f with | some F => (argsAs F.pm a || argsF F.pm a) && oneMu F.pm | none => false)
  | .bin o a b => okE X a && okE X b && (!(o == .index) || nxE X.Nx b)
  | .and a b | .or a b | .cons a b | .dic1 a b => okE X a && okE X b
  | .setdef i a b => okE X a && okE X b && !(touchE a).contains i && !(touchE b).contains i && nxE X.Nx a && nxE X.Nx b
  | .chain o o' a b c => cmpO o && cmpO o' && (okE X a && (okE X b && okE X c))
  | .sl a b c | .get a b c => okE X a && (okE X b && okE X c)
  | .ite _ _ _ => false
  | .dic2 a b c e => okE X a && (okE X b && (okE X c && okE X e))
  | .lc own tg k a b c e => (okE X a && (okE X b && (okE X c && okE X e))) && (nixB b == !k.two) && outL (own.map (·.2)) X.Ow && inL (tgL tg) (own.map (·.2)) && inL (own.map (·.2)) (tgL tg) && (own.map (·.2)).all (fun i => decide (i < X.n)) && nxE X.Nx c && nxE X.Nx e && outL (own.map (·.2)) (touchE c ++ touchE e)

/-! ### calls -/
structure HC (X : Kx) (C : Calls) (CC : CCalls) : Prop where
  call : ∀ f F, X.T.lookup f = some F → ∀ vs env0, argX F.pm vs = some env0 → oneMu F.pm = true →
    CC f (vs.map (·.2)) = .stuck ∨ (∃ v d w, CC f (vs.map (·.2)) = .ok (d, w) ∧ C f vs = .ok v (if F.pm.contains .mu then some w else none) ∧ lowV v d ∧ (X.Fr.contains f = true → LD d = true → v.1 = .fr)) ∨
      (∃ x, CC f (vs.map (·.2)) = .exc x ∧ C f vs = .exc x ∧ F.pm.contains .mu = false ∧ X.Nx.contains f = false)

def Vv (X : Kx) (e : E) (v : Val) (d : D) : Prop := lowV v d ∧ (frE X.Fr e = true → LD d = true → v.1 = .fr)
inductive VA : List Val → List (Option Nat × D) → Prop
  | nil : VA [] []
  | low {v : Val} {d : D} {vs : List Val} {ds : List (Option Nat × D)} : lowV v d → VA vs ds → VA (v :: vs) ((none, d) :: ds)
  | mu {i : Nat} {d d' : D} {vs : List Val} {ds : List (Option Nat × D)} : VA vs ds → VA ((.mu i, d) :: vs) ((some i, d') :: ds)

section
variable {X : Kx} {β : Type} {C : Calls} {CC : CCalls}
/-- a value looked at -/
def Vb (a : E) (env : Env) (v : Val) (d : D) : Prop := rdy v = some d ∧ inp v = inpE a env
theorem Vv.vb {a : E} {env : Env} {v : Val} {d : D} (h : Vv X a v d) (n : ∀ i, a ≠ .own i) : Vb a env v d :=
  ⟨h.1.rdy, by rw [h.1.inp]; cases a <;> first | rfl | exact absurd rfl (n _)⟩
theorem sim_bor {a : E} {env d : Env} {K : D → Env → P β} (r : Rl X.Ow X.Mu env d) (h : ∀ K : D → Env → P β, Sim X (Vv X a) K env (touchE a) (nxE X.Nx a) (cE CC a env K) (evE C a d)) :
    Sim X (Vb a env) K env (touchE a) (nxE X.Nx a) (bor a env (cE CC a env) K) (evE C a d) := by
  have go : (∀ i, a ≠ .own i) → Sim X (Vb a env) K env (touchE a) (nxE X.Nx a) (bor a env (cE CC a env) K) (evE C a d) := fun n => by
    have e : bor a env (cE CC a env) K = cE CC a env K := by cases a <;> first | rfl | exact absurd rfl (n _)
    rw [e]
    exact (h K).weak fun v x q => q.vb n
  cases a with
  | own i =>
    show Sim X _ K env _ _ (match getS env i with | some s => K s.2 env | none => .stuck) _
    cases hg : getS env i with
    | none => exact Sim.no
    | some s =>
      obtain ⟨m, x⟩ := s
      have hd := r.at' i _ hg
      cases m with
      | sh =>
        have e : evE C (.own i) d = .ok (.sh, x) d := by simp only [evE, hd]
        rw [e]
        exact .inr (.inl ⟨(.sh, x), x, env, d, rfl, ⟨rfl, by show false = isOw env i; rw [isOw_at hg]; rfl⟩, r, Ag.rfl', rfl⟩)
      | ow =>
        have e : evE C (.own i) d = .ok (.bo, x) d := by simp only [evE, hd]
        rw [e]
        exact .inr (.inl ⟨(.bo, x), x, env, d, rfl, ⟨rfl, by show true = isOw env i; rw [isOw_at hg]; rfl⟩, r, Ag.rfl', rfl⟩)
      | mu =>
        have e : evE C (.own i) d = .ok (.bo, x) d := by simp only [evE, hd]
        rw [e]
        exact .inr (.inl ⟨(.bo, x), x, env, d, rfl, ⟨rfl, by show true = isOw env i; rw [isOw_at hg]; rfl⟩, r, Ag.rfl', rfl⟩)
  | _ => exact go fun i z => nomatch z

/-! ### operations -/
theorem md_ints {f : Int → Int → Option Val} {a b : D} {v : Val} (h : onInts f a b = some v) (k : ∀ i j v, f i j = some v → v.1 = .sh ∨ (v.1 = .fr ∧ LD v.2 = true)) : v.1 = .sh ∨ (v.1 = .fr ∧ LD v.2 = true) := by
  cases a <;> cases b <;> first | (cases h; done) | exact k _ _ v h
theorem md_if {c : Prop} [Decidable c] {x v : Val} (h : (if c then some x else none) = some v) (k : x.1 = .sh ∨ (x.1 = .fr ∧ LD x.2 = true)) : v.1 = .sh ∨ (v.1 = .fr ∧ LD v.2 = true) := by
  split at h
  · cases h; exact k
  · cases h
theorem md_map {α : Type} {x : Option α} {f : α → Val} {r : Val} (h : x.map f = some r) (k : ∀ a, (f a).1 = .sh ∨ ((f a).1 = .fr ∧ LD (f a).2 = true)) : r.1 = .sh ∨ (r.1 = .fr ∧ LD r.2 = true) := by
  obtain ⟨a, _, rfl⟩ := Option.map_eq_some_iff.mp h; exact k a
theorem md_bind {α : Type} {x : Option α} {f : α → Option Val} {r : Val} (h : x.bind f = some r) (k : ∀ a r, f a = some r → r.1 = .sh ∨ (r.1 = .fr ∧ LD r.2 = true)) : r.1 = .sh ∨ (r.1 = .fr ∧ LD r.2 = true) := by
  obtain ⟨a, _, e⟩ := Option.bind_eq_some_iff.mp h; exact k a r e
/-- what an operation of one gives: a list, a dict is new -/
theorem md1 {o : U1} {d : D} {v : Val} (h : op1 o d = some v) : (v.1 = .sh ∧ LD v.2 = false) ∨ (v.1 = .fr ∧ LD v.2 = true) := by
  cases o <;> cases d <;> simp only [op1] at h <;> first
    | (cases h; done)
    | (cases h; exact .inl ⟨rfl, rfl⟩)
    | (cases h; exact .inr ⟨rfl, rfl⟩)
    | (obtain ⟨_, _, rfl⟩ := Option.map_eq_some_iff.mp h; first | exact .inl ⟨rfl, rfl⟩ | exact .inr ⟨rfl, rfl⟩)
    | (split at h <;> first | (cases h; done) | (cases h; first | exact .inl ⟨rfl, rfl⟩ | exact .inr ⟨rfl, rfl⟩))
    | (obtain ⟨ns, _, h⟩ := Option.bind_eq_some_iff.mp h; split at h <;> first | (cases h; done) | (cases h; first | exact .inl ⟨rfl, rfl⟩ | exact .inr ⟨rfl, rfl⟩))
theorem md2 {o : U2} {a b : D} {v : Val} (h : op2 o a b = some v) : v.1 = .sh ∨ (v.1 = .fr ∧ LD v.2 = true) := by
  cases o with
  | add => cases a <;> cases b <;> simp only [op2, opAdd] at h <;> first
    | (cases h; done)
    | (cases h; exact .inl rfl)
    | exact md_if h (.inl rfl)
    | exact md_if h (.inr ⟨rfl, rfl⟩)
  | sub => exact md_ints h fun i j v q => by cases q; exact .inl rfl
  | mul => cases a <;> cases b <;> simp only [op2, opMul] at h <;> first
    | (cases h; done)
    | exact md_if h (.inl rfl)
  | fdiv => exact md_ints h fun i j v q => md_if q (.inl rfl)
  | mod => exact md_ints h fun i j v q => md_if q (.inl rfl)
  | pow => exact md_ints h fun i j v q => md_if q (.inl rfl)
  | eq => simp only [op2, opEq] at h; split at h <;> exact md_if h (.inl rfl)
  | ne => simp only [op2, opEq] at h; split at h <;> exact md_if h (.inl rfl)
  | lt => exact md_ints h fun i j v q => by cases q; exact .inl rfl
  | le => exact md_ints h fun i j v q => by cases q; exact .inl rfl
  | gt => exact md_ints h fun i j v q => by cases q; exact .inl rfl
  | max => exact md_ints h fun i j v q => by cases q; exact .inl rfl
  | min => exact md_ints h fun i j v q => by cases q; exact .inl rfl
  | ge => cases a <;> cases b <;> simp only [op2, opGe] at h <;> first
    | (cases h; done)
    | (cases h; exact .inl rfl)
    | exact md_bind h fun _ _ q => md_map q fun _ => .inl rfl
  | inn => simp only [op2, opIn] at h; repeat' split at h
           all_goals first | (cases h; done) | (cases h; exact .inl rfl)
  | nin => simp only [op2, opIn] at h; repeat' split at h
           all_goals first | (cases h; done) | (cases h; exact .inl rfl)
  | idx => simp only [op2, opIdx] at h; split at h <;> first
    | (cases h; done)
    | exact md_map h fun _ => .inl rfl
    | (split at h <;> first | (cases h; done) | exact md_map h fun _ => .inl rfl)
  | index => cases a <;> cases b <;> simp only [op2] at h <;> first
    | (cases h; done)
    | exact md_bind h fun _ _ q => md_map q fun _ => .inl rfl
theorem mdAdd {a b : D} {v : Val} (h : op2 .add a b = some v) : LD v.2 = true → v.1 = .fr := by
  cases a <;> cases b <;> simp only [op2, opAdd] at h <;> first
    | (cases h; done)
    | (cases h; intro z; cases z)
    | (split at h <;> first | (cases h; done) | (cases h; first | (intro z; cases z; done) | (intro _; rfl)))
theorem mdS {a : D} {l h : Option Int} {v : Val} (e : opSl a l h = some v) : (v.1 = .sh ∧ LD v.2 = false) ∨ (v.1 = .fr ∧ LD v.2 = true) := by
  cases a <;> simp only [opSl] at e <;> first
    | (cases e; done)
    | (cases e; exact .inl ⟨rfl, rfl⟩)
    | (cases e; exact .inr ⟨rfl, rfl⟩)
    | (split at e <;> first | (cases e; done) | (cases e; exact .inl ⟨rfl, rfl⟩))
theorem cmp_int {o : U2} (ho : cmpO o = true) {a b : D} {v : Val} (h : op2 o a b = some v) : LD a = false ∧ LD b = false ∧ ∃ t, v = (.sh, .bl t) := by
  cases o <;> first
    | (cases ho; done)
    | (cases a <;> cases b <;> simp only [op2, opCmp, onInts] at h <;> first | (cases h; done) | (cases h; exact ⟨rfl, rfl, _, rfl⟩))
/-- the end of an operation -/
theorem sim_op {o : Option Val} {V : Val → D → Prop} {K : D → Env → P β} {env d : Env} (r : Rl X.Ow X.Mu env d) (k : ∀ v, o = some v → V v v.2) : Sim X V K env [] true (oP o fun z => K z env) (ofO o d) := by
  cases o with
  | none => exact Sim.no
  | some v => exact .inr (.inl ⟨v, v.2, env, d, rfl, k v rfl, r, Ag.rfl', rfl⟩)
end
end En
end

section
set_option Elab.async false
set_option linter.all false
set_option maxRecDepth 100000
set_option maxHeartbeats 4000000
namespace En
open PySem

section
variable {X : Kx} {β : Type} {C : Calls} {CC : CCalls}
theorem vv_of {e : E} {v : Val} (h : v.1 = .sh ∨ (v.1 = .fr ∧ LD v.2 = true)) (k : frE X.Fr e = true → LD v.2 = true → v.1 = .fr) : Vv X e v v.2 := ⟨⟨rfl, h⟩, k⟩
theorem vv_sh {e : E} {d : D} (k : frE X.Fr e = true → LD d = false) : Vv X e (.sh, d) d := ⟨lowV.one d, fun z q => by rw [k z] at q; cases q⟩

/-! ### slots kept and put again -/
theorem getA_len {env c' : Env} : ∀ {vs : List Nat} {st : List D}, getA env c' vs = some st → ∀ i, i ∈ vs → i < c'.length := by
  intro vs
  induction vs with
  | nil => intro st _ i h; cases h
  | cons j js ih =>
    intro st h i hi
    unfold getA at h
    split at h
    · rename_i s hg
      split at h
      · split at h
        · rename_i r hr
          rcases List.mem_cons.mp hi with e | e
          · rw [e]; exact gLt hg
          · exact ih hr i e
        · cases h
      · cases h
    · cases h
theorem putA_get {env c' : Env} : ∀ {vs : List Nat} {st : List D} {e0 : Env} {j : Nat}, getA env c' vs = some st → e0.length = c'.length → getS (putA env e0 vs st) j = (if j ∈ vs then getS c' j else getS e0 j) := by
  intro vs
  induction vs with
  | nil => intro st e0 j h hl; simp [putA]
  | cons i is ih =>
    intro st e0 j h hl
    unfold getA at h
    split at h
    · rename_i s hg
      split at h
      · rename_i hm
        split at h
        · rename_i r hr
          cases h
          show getS (putA env (setS e0 i (some (moOf env i, s.2))) is r) j = _
          rw [ih hr (by rw [lSet]; exact hl)]
          by_cases hj : j ∈ is
          · rw [if_pos hj, if_pos (List.mem_cons_of_mem _ hj)]
          · rw [if_neg hj, gSet]
            by_cases e : j = i
            · subst e
              rw [if_pos ⟨rfl, by rw [hl]; exact gLt hg⟩, if_pos List.mem_cons_self, hg, ← beq_iff_eq.mp hm]
            · rw [if_neg (fun z => e z.1), if_neg (fun z => (List.mem_cons.mp z).elim e hj)]
        · cases h
      · cases h
    · cases h
theorem putA_len {env : Env} : ∀ {vs : List Nat} {st : List D} {e0 : Env}, (putA env e0 vs st).length = e0.length := by
  intro vs
  induction vs with
  | nil => intro st e0; rfl
  | cons i is ih => intro st e0; show (putA env (setS e0 i _) is st.tail).length = _; rw [ih, lSet]
/-- joined again -/
theorem Rl.join {Ow Mu : List Nat} {env c' d : Env} {t vs : List Nat} {st : List D} (r : Rl Ow Mu c' d) (g : Ag t env c') (h : getA env c' vs = some st) : Rl Ow Mu (putA env (wipeE env t) vs st) d where
  len := by rw [putA_len, lWipe, ← g.len]; exact r.len
  at' := fun i s q => by
    rw [putA_get h (by rw [lWipe, g.len])] at q
    split at q
    · exact r.at' i s q
    · rw [gWipe] at q
      split at q
      · cases q
      · rename_i n
        exact r.at' i s (by rw [g.at' i n]; exact q)
  ow := r.ow
  mu := r.mu
theorem Ag.join {env c' : Env} {t u vs : List Nat} {st : List D} (g : Ag t env c') (h : getA env c' vs = some st) (k : ∀ i, i ∈ t → i ∈ u) (k2 : ∀ i, i ∈ vs → i ∈ u) : Ag u env (putA env (wipeE env t) vs st) :=
  ⟨by rw [putA_len, lWipe], fun i hi => by rw [putA_get h (by rw [lWipe, g.len]), if_neg (fun z => hi (k2 i z)), gWipe, if_neg (fun z => hi (k i z))]⟩
theorem Rl.join2 {Ow Mu : List Nat} {env c' d : Env} {t vs : List Nat} {st : List D} (r : Rl Ow Mu c' d) (g : Ag t env c') (h : getA env c' vs = some st) : Rl Ow Mu (putA env (wipeE env t) vs st) d := r.join g h
theorem sim_sc {V : Val → D → Prop} {K : D → Env → P β} {env : Env} {t v : List Nat} {n b : Bool} {f g : (D → Env → P β) → P β} {rf rg : R Val} (hv : ∀ i, i ∈ v → i ∈ t) (hf : ∀ K' : D → Env → P β, Sim X V K' env t n (f K') rf) (hg : ∀ K' : D → Env → P β, Sim X V K' env t n (g K') rg) :
    Sim X V K env t n (scC t v env b f g K) (if b then rf else rg) := by
  have go : ∀ (f : (D → Env → P β) → P β) (r : R Val), (∀ K' : D → Env → P β, Sim X V K' env t n (f K') r) → Sim X V K env t n (f (fun d e => optP (getA env e v) fun st => (fun st => K (st.headD .non) (putA env (wipeE env t) v st.tail)) (d :: st))) r := fun f r h => by
    rcases h (fun d e => optP (getA env e v) fun st => (fun st => K (st.headD .non) (putA env (wipeE env t) v st.tail)) (d :: st)) with h | ⟨a, a', c', d', h1, h2, h3, h4, h5⟩ | h
    · exact .inl h
    · rw [h5]
      cases hst : getA env c' v with
      | none => exact .inl (by simp [optP, hst])
      | some st => exact .inr (.inl ⟨a, a', _, d', h1, h2, h3.join h4 hst, h4.join hst (fun _ z => z) hv, by simp [optP, hst]⟩)
    · exact .inr (.inr h)
  cases b with
  | true => exact go f rf hf
  | false => exact go g rg hg
theorem keep_touch : ∀ (e : E) (i : Nat), i ∈ keepE e → i ∈ touchE e := by
  intro e
  induction e <;> intro i hi <;> simp only [keepE, touchE, List.mem_append, List.mem_singleton, List.not_mem_nil, List.mem_map] at hi ⊢ <;> grind

/-! ### ends of slices, what is walked -/
theorem sim_O {a : E} {env d : Env} {K : Option Int → Env → P β} (r : Rl X.Ow X.Mu env d) (h : ∀ K : D → Env → P β, Sim X (Vv X a) K env (touchE a) (nxE X.Nx a) (cE CC a env K) (evE C a d)) :
    Sim X Eq K env (touchE a) (nxE X.Nx a) (cO a (cE CC a env) env K) (evO (evE C a) a d) := by
  have go : Sim X Eq K env (touchE a) (nxE X.Nx a) (cE CC a env fun d env => asI d fun i => K (some i) env) ((evE C a d).bind fun v env => match v with
    | (.sh, .int i) => .ok (some i) env
    | _ => .stuck) := Sim.bind0 (h _) fun v x c' d' hv r' g => by
      cases x with
      | int i => rw [hv.1.sh rfl]; exact .inr (.inl ⟨some i, some i, c', d', rfl, rfl, r', Ag.rfl', rfl⟩)
      | _ => exact Sim.no
  cases a with
  | nix => exact .inr (.inl ⟨none, none, env, d, rfl, rfl, r, Ag.rfl', rfl⟩)
  | _ => exact go
theorem low_nix {v : Val} {x : D} (h : lowV v x) : low v = some x := h.low
theorem cI_nix {k : ItK} {a b : E} {ra rb : Env → (D → Env → P β) → P β} {env : Env} {K : List D → Env → P β} (h : nixB b = true) : cI CC k a b ra rb env K = ra env fun x env => optP (src1 k x) fun xs => ifP (szOk xs.length) (K xs env) := by
  cases b <;> first | rfl | (cases h; done)
theorem cI_two {k : ItK} {a b : E} {ra rb : Env → (D → Env → P β) → P β} {env : Env} {K : List D → Env → P β} (h : nixB b = false) : cI CC k a b ra rb env K = ra env fun x env => rb env fun y env => optP (src2 k x y) fun xs => ifP (szOk xs.length) (K xs env) := by
  cases b <;> first | rfl | (cases h; done)
theorem sim_I {k : ItK} {a b : E} {env d : Env} {K : List D → Env → P β} (hk : (nixB b == !k.two) = true) (ha : ∀ K : D → Env → P β, Sim X (Vv X a) K env (touchE a) (nxE X.Nx a) (cE CC a env K) (evE C a d))
    (hlen : env.length = X.n) (hb : ∀ (env d : Env) (K : D → Env → P β), Rl X.Ow X.Mu env d → env.length = X.n → Sim X (Vv X b) K env (touchE b) (nxE X.Nx b) (cE CC b env K) (evE C b d)) :
    Sim X (fun xs ys => xs = ys ∧ szOk xs.length = true) K env (touchE a ++ touchE b) (nxE X.Nx a && nxE X.Nx b) (cI CC k a b (cE CC a) (cE CC b) env K) (evI (evE C a) (evE C b) k d) := by
  unfold evI
  have fin : ∀ (o : Option (List D)) (c' d' : Env) , Rl X.Ow X.Mu c' d' → Sim X (fun xs ys => xs = ys ∧ szOk xs.length = true) K c' [] true (optP o fun xs => ifP (szOk xs.length) (K xs c')) (match o with | some xs => .ok xs d' | none => .stuck) := fun o c' d' r' => by
    cases o with
    | none => exact Sim.no
    | some xs =>
      show Sim X _ K c' [] true (ifP (szOk xs.length) (K xs c')) _
      cases hz : szOk xs.length with
      | false => exact Sim.no
      | true => exact .inr (.inl ⟨xs, xs, c', d', rfl, ⟨rfl, hz⟩, r', Ag.rfl', rfl⟩)
  cases hn : nixB b with
  | true =>
    rw [cI_nix hn]
    refine Sim.bind (ha _) fun v x c' d' hv r' g => ?_
    have e : b = .nix := by cases b <;> first | rfl | (cases hn; done)
    subst e
    have ht : k.two = false := by rw [hn] at hk; simpa using hk
    have e2 : (evE C .nix d') = .ok (.sh, .non) d' := by simp only [evE]
    rw [e2]
    simp only [R.bind_ok, hv.1.low, ht]
    exact fin (src1 k x) c' d' r'
  | false =>
    have ht : k.two = true := by rw [hn] at hk; simpa using hk
    rw [cI_two hn]
    refine Sim.bind (ha _) fun v x c' d' hv r' g => ?_
    refine Sim.bind0 (hb c' d' _ r' (by rw [g.len]; exact hlen)) fun w y c2 d2 hw r2 g2 => ?_
    simp only [hv.1.low, hw.1.low, ht]
    exact fin (src2 k x y) c2 d2 r2

/-! ### targets -/
theorem bind1_sim {i : Nat} {x : D} {env d : Env} (r : Rl X.Ow X.Mu env d) (hm : X.Mu.contains i = false) (hl : i < env.length) : bind1 i x d = some (setS d i (some (.sh, x))) := by
  unfold bind1
  have h1 : isMu d i = false := by
    cases h : isMu d i with
    | false => rfl
    | true => have := r.mu i h; rw [← List.contains_iff_mem, hm] at this; cases this
  rw [h1, if_neg (by decide), if_pos (by rw [← r.len]; exact hl)]
theorem bndL_sim {K : Env → P β} : ∀ {is : List Nat} {ds : List D} {env d : Env}, Rl X.Ow X.Mu env d → outL is X.Mu = true → (is.all fun i => decide (i < env.length)) = true →
    bndL is ds env K = .stuck ∨ ∃ c' d', bindL is ds d = some d' ∧ Rl X.Ow X.Mu c' d' ∧ Ag is env c' ∧ bndL is ds env K = K c' := by
  intro is
  induction is with
  | nil => intro ds env d r _ _; cases ds with
    | nil => exact .inr ⟨env, d, rfl, r, Ag.rfl', rfl⟩
    | cons => exact .inl rfl
  | cons i is ih => intro ds env d r hm hl; cases ds with
    | nil => exact .inl rfl
    | cons x ds =>
      simp only [outL, List.all_cons, Bool.and_eq_true, Bool.not_eq_true', decide_eq_true_eq] at hm hl
      rcases ih (ds := ds) (r.sh (i := i) (x := x)) hm.2 (by simpa [lSet] using hl.2) with h | ⟨c', d', h1, h2, h3, h4⟩
      · exact .inl h
      · refine .inr ⟨c', d', ?_, h2, ?_, h4⟩
        · show ((bind1 i x d).bind fun env' => bindL is ds env') = _
          rw [bind1_sim r hm.1 hl.1]; exact h1
        · exact ((Ag.set (t := [i]) (by simp)).app h3).mono fun j z => by simpa using z
theorem bnd_sim {K : Env → P β} {tg : Tg} {x : D} {env d : Env} (r : Rl X.Ow X.Mu env d) (hm : outL (tgL tg) X.Mu = true) (hl : ((tgL tg).all fun i => decide (i < env.length)) = true) :
    bnd tg x env K = .stuck ∨ ∃ c' d', bindTg tg x d = some d' ∧ Rl X.Ow X.Mu c' d' ∧ Ag (tgL tg) env c' ∧ bnd tg x env K = K c' := by
  cases tg with
  | one i =>
    simp only [outL, tgL, List.all_cons, List.all_nil, Bool.and_true, Bool.not_eq_true', decide_eq_true_eq] at hm hl
    exact .inr ⟨_, _, bind1_sim r hm hl, r.sh, Ag.set (by simp [tgL]), rfl⟩
  | many is =>
    cases x with
    | tup ds => exact bndL_sim r hm hl
    | lst ds => exact bndL_sim r hm hl
    | _ => exact .inl rfl
theorem owSub {vs : List Nat} {d env : Env} (r : Rl X.Ow X.Mu env d) (h : outL vs X.Ow = true) : vs.any (isOw d) = false := by
  cases q : vs.any (isOw d) with
  | false => rfl
  | true =>
    obtain ⟨i, hi, ho⟩ := List.any_eq_true.mp q
    have := List.all_eq_true.mp h i hi
    rw [List.contains_iff_mem.mpr (r.ow i ho)] at this
    cases this
theorem mem_outL {xs ys : List Nat} (h : outL xs ys = true) {i : Nat} (hi : i ∈ xs) : i ∉ ys := fun z => by
  have := List.all_eq_true.mp h i hi
  rw [List.contains_iff_mem.mpr z] at this
  cases this
theorem mem_inL {xs ys : List Nat} (h : inL xs ys = true) {i : Nat} (hi : i ∈ xs) : i ∈ ys := by
  have := List.all_eq_true.mp h i hi
  exact List.contains_iff_mem.mp this

/-! ### comprehensions -/
theorem asB_bl {b : Bool} {K : Bool → P β} : asB (.bl b) K = K b := rfl
theorem sim_lc {F : List D → D → (Option D → List D → P β) → P β} {tg : Tg} {c e : E} {vs t : List Nat} {env : Env} {K2 : List D → Env → P β} (ht : t = touchE c ++ touchE e) (hmu : outL (tgL tg) X.Mu = true) (htg : inL (tgL tg) vs = true) (hlen : ((tgL tg).all fun i => decide (i < env.length)) = true) (hvo : outL vs X.Ow = true) (hvt : outL vs t = true)
    (hF : ∀ st x k, F st x k = bnd tg x (putA env (wipeE env (vs ++ t)) t st) fun e1 => cE CC c e1 fun b e2 => asB b fun b => bif b then cE CC e e2 fun d e3 => optP (getA env e3 t) fun st => k (some d) st else optP (getA env e2 t) fun st => k none st)
    (nc : nxE X.Nx c = true) (ne : nxE X.Nx e = true) (hn : env.length = X.n)
    (hc : ∀ (env d : Env) (K : D → Env → P β), Rl X.Ow X.Mu env d → env.length = X.n → Sim X (Vv X c) K env (touchE c) (nxE X.Nx c) (cE CC c env K) (evE C c d))
    (he : ∀ (env d : Env) (K : D → Env → P β), Rl X.Ow X.Mu env d → env.length = X.n → Sim X (Vv X e) K env (touchE e) (nxE X.Nx e) (cE CC e env K) (evE C e d)) :
    ∀ (xs : List D) (st acc : List D) (dd : Env), Rl X.Ow X.Mu (putA env (wipeE env (vs ++ t)) t st) dd → (∀ i, i ∉ t → getS (putA env (wipeE env (vs ++ t)) t st) i = getS (wipeE env (vs ++ t)) i) → acc.length + xs.length ≤ sizeLine →
      Sim X Eq K2 env (vs ++ (tgL tg ++ t)) true (lcC F xs st acc (fun acc st => K2 acc (putA env (wipeE env (vs ++ t)) t st)))
        (lcL (evE C c) (evE C e) tg vs xs acc dd) := by
  intro xs
  induction xs with
  | nil =>
    intro st acc dd r ag _
    refine .inr (.inl ⟨acc, acc, _, dd, rfl, rfl, r, ⟨by rw [putA_len, lWipe], fun i hi => ?_⟩, rfl⟩)
    have n1 : i ∉ t := fun z => hi (by simp [z])
    have n2 : i ∉ vs := fun z => hi (by simp [z])
    rw [ag i n1, gWipe, if_neg (by simp [n1, n2])]
  | cons x xs ih =>
    intro st acc dd r ag hsz
    rw [lcC, lcL, hF]
    have step : ∀ (c3 d3 : Env) (st' : List D), Rl X.Ow X.Mu c3 d3 → Ag (vs ++ t) (putA env (wipeE env (vs ++ t)) t st) c3 → getA env c3 t = some st' →
        Rl X.Ow X.Mu (putA env (wipeE env (vs ++ t)) t st') (wipeE d3 vs) ∧ (∀ i, i ∉ t → getS (putA env (wipeE env (vs ++ t)) t st') i = getS (wipeE env (vs ++ t)) i) := fun c3 d3 st' r3 g3 hst => by
      have hl3 : (wipeE env (vs ++ t)).length = c3.length := by rw [g3.len, putA_len]
      refine ⟨⟨by rw [putA_len, lWipe, lWipe, ← r3.len, ← hl3, lWipe], fun i s q => ?_, fun i h => ?_, fun i h => ?_⟩, fun i hi => by rw [putA_get hst hl3, if_neg hi]⟩
      · rw [putA_get hst hl3] at q
        rw [gWipe]
        split at q
        · rename_i hi
          rw [if_neg (fun z => mem_outL hvt z hi)]
          exact r3.at' i s q
        · rename_i hi
          rw [gWipe] at q
          split at q
          · cases q
          · rename_i hn
            have hv : i ∉ vs := fun z => hn (by simp [z])
            rw [if_neg hv]
            refine r3.at' i s ?_
            rw [g3.at' i (by simp [hv, hi]), ag i hi, gWipe, if_neg hn]; exact q
      · refine r3.ow i ?_
        by_cases hv : i ∈ vs
        · rw [isOw_no' (show getS (wipeE d3 vs) i = none by rw [gWipe, if_pos hv])] at h; cases h
        · unfold isOw at h ⊢
          rw [gWipe, if_neg hv] at h; exact h
      · refine r3.mu i ?_
        by_cases hv : i ∈ vs
        · rw [isMu_no (show getS (wipeE d3 vs) i = none by rw [gWipe, if_pos hv])] at h; cases h
        · unfold isMu at h ⊢
          rw [gWipe, if_neg hv] at h; exact h
    rcases bnd_sim (K := fun e1 => cE CC c e1 fun b e2 => asB b fun b => bif b then cE CC e e2 fun d e3 => optP (getA env e3 t) fun st' => lcC F xs st' (acc ++ [d]) (fun acc st => K2 acc (putA env (wipeE env (vs ++ t)) t st)) else optP (getA env e2 t) fun st' => lcC F xs st' acc (fun acc st => K2 acc (putA env (wipeE env (vs ++ t)) t st))) (x := x) r hmu (by rw [putA_len, lWipe]; exact hlen) with h | ⟨c1, d1, h1, r1, g1, h4⟩
    · exact .inl h
    · refine Eq.mpr (congrArg (fun z => Sim X Eq K2 env _ true z _) h4) ?_
      rw [h1]
      simp only
      rcases hc c1 d1 (fun b e2 => asB b fun b => bif b then cE CC e e2 fun d e3 => optP (getA env e3 t) fun st' => lcC F xs st' (acc ++ [d]) (fun acc st => K2 acc (putA env (wipeE env (vs ++ t)) t st)) else optP (getA env e2 t) fun st' => lcC F xs st' acc (fun acc st => K2 acc (putA env (wipeE env (vs ++ t)) t st))) r1 (by rw [g1.len, putA_len, lWipe]; exact hn) with h | ⟨v, b, c2, d2, k1, k2, r2, g2, k5⟩ | ⟨_, _, _, _, h, _⟩
      · exact .inl h
      · rw [k5, k1]
        have gg2 : Ag (vs ++ t) (putA env (wipeE env (vs ++ t)) t st) c2 := (g1.app g2).mono fun i hi => by
          rcases List.mem_append.mp hi with z | z
          · exact List.mem_append_left _ (mem_inL htg z)
          · rw [ht]; simp [z]
        cases b with
        | bl bb =>
          rw [k2.1.sh rfl]
          simp only [R.hard_ok, R.bind_ok, asB_bl]
          cases bb with
          | true =>
            simp only [cond_true]
            rcases he c2 d2 (fun d e3 => optP (getA env e3 t) fun st' => lcC F xs st' (acc ++ [d]) (fun acc st => K2 acc (putA env (wipeE env (vs ++ t)) t st))) r2 (by rw [g2.len, g1.len, putA_len, lWipe]; exact hn) with h | ⟨w, y, c3, d3, m1, m2, r3, g3, m5⟩ | ⟨_, _, _, _, h, _⟩
            · exact .inl h
            · rw [m5, m1]
              have gg3 : Ag (vs ++ t) (putA env (wipeE env (vs ++ t)) t st) c3 := (gg2.app g3).mono fun i hi => by
                rcases List.mem_append.mp hi with z | z
                · exact z
                · rw [ht]; simp [z]
              cases hst : getA env c3 t with
              | none => exact .inl (by simp [optP, hst])
              | some st' =>
                obtain ⟨q1, q2⟩ := step c3 d3 st' r3 gg3 hst
                have sz : szOk (acc.length + 1) = true := decide_eq_true (by simp at hsz; omega)
                simp only [R.hard_ok, R.bind_ok, m2.1.low, sz, owSub r3 hvo, Bool.not_false, Bool.and_self, if_true, optP, hst]
                exact ih st' (acc ++ [y]) _ q1 q2 (by simp at hsz ⊢; omega)
            · rw [ne] at h; cases h
          | false =>
            simp only [cond_false]
            cases hst : getA env c2 t with
            | none => exact .inl (by simp [optP, hst])
            | some st' =>
              obtain ⟨q1, q2⟩ := step c2 d2 st' r2 gg2 hst
              simp only [owSub r2 hvo, Bool.not_false, if_true, optP, hst]
              exact ih st' acc _ q1 q2 (by simp at hsz ⊢; omega)
        | _ => exact .inl rfl
      · rw [nc] at h; cases h
end
end En
end

section
set_option Elab.async false
set_option linter.all false
set_option maxRecDepth 100000
set_option maxHeartbeats 4000000
namespace En
open PySem

/-! ### arguments -/
def ShA : E → List Val → List (Option Nat × D) → Prop
  | .nil, vs, ds => vs = [] ∧ ds = []
  | .cons a r, vs, ds => ∃ v vs' d ds', vs = v :: vs' ∧ ds = d :: ds' ∧ ShA r vs' ds' ∧ (match a with
    | .mut i => (∃ x, v = (.mu i, x)) ∧ d.1 = some i
    | .var _ => v = (.sh, d.2) ∧ d.1 = none
    | .dic0 => v = (.fr, .dic []) ∧ d = (none, .dic [])
    | _ => lowV v d.2 ∧ d.1 = none)
  | _, _, _ => False
section
variable {X : Kx} {C : Calls} {CC : CCalls}
theorem sh_low {a r : E} {vs : List Val} {ds : List (Option Nat × D)} (h : ShA (.cons a r) vs ds) (hm : isMutE a = false) : ∃ v vs' d ds', vs = v :: vs' ∧ ds = (none, d) :: ds' ∧ ShA r vs' ds' ∧ lowV v d := by
  obtain ⟨v, vs', d, ds', rfl, rfl, hr, hc⟩ := h
  obtain ⟨o, d⟩ := d
  cases a with
  | «mut» i => cases hm
  | var i => obtain ⟨rfl, rfl⟩ := hc; exact ⟨_, _, _, _, rfl, rfl, hr, lowV.one _⟩
  | dic0 => obtain ⟨rfl, hc⟩ := hc; cases hc; exact ⟨_, _, _, _, rfl, rfl, hr, rfl, .inr ⟨rfl, rfl⟩⟩
  | _ => obtain ⟨hl, rfl⟩ := hc; exact ⟨_, _, _, _, rfl, rfl, hr, hl⟩
theorem sh_lows : ∀ {a : E} {vs : List Val} {ds : List (Option Nat × D)}, ShA a vs ds → noMutA a = true → lows vs = some (ds.map (·.2)) ∧ ds.length = argN a := by
  intro a
  induction a with
  | nil => intro vs ds h _; obtain ⟨rfl, rfl⟩ := h; exact ⟨rfl, rfl⟩
  | cons a r iha ihr =>
    intro vs ds h hm
    simp only [noMutA, Bool.and_eq_true, Bool.not_eq_true'] at hm
    obtain ⟨v, vs', d, ds', rfl, rfl, hr, hl⟩ := sh_low h hm.1
    obtain ⟨h1, h2⟩ := ihr hr hm.2
    exact ⟨by simp only [lows, hl.low, h1, Option.bind_some, Option.map_some, List.map_cons], by simp only [List.length_cons, argN, h2]⟩
  | _ => intro vs ds h _; exact h.elim
theorem sh_mu : ∀ {a : E} {vs : List Val} {ds : List (Option Nat × D)}, ShA a vs ds → muOf vs = muC ds ∧ (∀ i, muC ds = some i → a.quiet = false ∧ i ∈ touchE a) := by
  intro a
  induction a with
  | nil => intro vs ds h; obtain ⟨rfl, rfl⟩ := h; exact ⟨rfl, fun i z => nomatch z⟩
  | cons a r iha ihr =>
    intro vs ds h
    cases hm : isMutE a with
    | false =>
      obtain ⟨v, vs', d, ds', rfl, rfl, hr, hl⟩ := sh_low h hm
      obtain ⟨h1, h2⟩ := ihr hr
      refine ⟨?_, fun i z => ?_⟩
      · obtain ⟨m, x⟩ := v
        obtain ⟨_, hl⟩ := hl
        rcases hl with hl | ⟨hl, _⟩ <;> (simp only at hl; subst hl; exact h1)
      · obtain ⟨q1, q2⟩ := h2 i z
        exact ⟨by simp [E.quiet, q1], by simp [touchE, q2]⟩
    | true =>
      cases a with
      | «mut» i =>
        obtain ⟨v, vs', d, ds', rfl, rfl, hr, ⟨x, rfl⟩, hd⟩ := h
        obtain ⟨o, d⟩ := d
        simp only at hd
        subst hd
        refine ⟨rfl, fun j z => ?_⟩
        cases z
        exact ⟨rfl, by simp [touchE]⟩
      | _ => cases hm
  | _ => intro vs ds h; exact h.elim
theorem sh_ok {c' d' : Env} (rl : Rl X.Ow X.Mu c' d') : ∀ {a : E} {vs : List Val} {ds : List (Option Nat × D)}, ShA a vs ds → muCk c' ds = true → muOk d' vs = true ∧ (refr d' vs).map (·.2) = refC c' ds := by
  intro a
  induction a with
  | nil => intro vs ds h _; obtain ⟨rfl, rfl⟩ := h; exact ⟨rfl, rfl⟩
  | cons a r iha ihr =>
    intro vs ds h hk
    cases hm : isMutE a with
    | false =>
      obtain ⟨v, vs', d, ds', rfl, rfl, hr, hl⟩ := sh_low h hm
      obtain ⟨h1, h2⟩ := ihr hr hk
      obtain ⟨m, x⟩ := v
      obtain ⟨rfl, hl⟩ := hl
      rcases hl with hl | ⟨hl, _⟩ <;> (simp only at hl; subst hl; exact ⟨h1, by simp only [refr, List.map_cons, refC, h2]⟩)
    | true =>
      cases a with
      | «mut» i =>
        obtain ⟨v, vs', d, ds', rfl, rfl, hr, ⟨x, rfl⟩, hd⟩ := h
        obtain ⟨o, d⟩ := d
        simp only at hd
        subst hd
        simp only [muCk, Bool.and_eq_true] at hk
        obtain ⟨h1, h2⟩ := ihr hr hk.2
        have hs : ∃ s, getS c' i = some s := by
          cases hg : getS c' i with
          | none => rw [isOw_no' hg] at hk; exact absurd hk.1 (by decide)
          | some s => exact ⟨s, rfl⟩
        obtain ⟨s, hg⟩ := hs
        have hg' := rl.at' i s hg
        have ho : isOw d' i = true := by rw [isOw_at hg', ← isOw_at hg]; exact hk.1
        refine ⟨by simp only [muOk, ho, h1, Bool.and_self], ?_⟩
        obtain ⟨sm, sd⟩ := s
        simp only [refr, List.map_cons, refC, h2, hg', contC, hg]
      | _ => cases hm
  | _ => intro vs ds h; exact h.elim
theorem sh_arg {d' : Env} : ∀ {a : E} {vs : List Val} {ds : List (Option Nat × D)} {pm : List Sm}, ShA a vs ds → argsAs pm a = true → (∃ env0, argS pm (refr d' vs) = some env0) ∧ (pm.contains .mu = (muC ds).isSome) := by
  intro a
  induction a with
  | nil => intro vs ds pm h ha; obtain ⟨rfl, rfl⟩ := h; cases pm with
    | nil => exact ⟨⟨[], rfl⟩, rfl⟩
    | cons m pm => cases m <;> cases ha
  | cons a r iha ihr =>
    intro vs ds pm h ha
    cases pm with
    | nil => cases ha
    | cons m pm =>
      cases m with
      | sh =>
        simp only [argsAs, Bool.and_eq_true, Bool.not_eq_true'] at ha
        obtain ⟨v, vs', d, ds', rfl, rfl, hr, hl⟩ := sh_low h ha.1
        obtain ⟨⟨e0, h1⟩, h2⟩ := ihr hr ha.2
        have er : refr d' (v :: vs') = v :: refr d' vs' := by
          obtain ⟨m, x⟩ := v
          obtain ⟨_, hl⟩ := hl
          rcases hl with hl | ⟨hl, _⟩ <;> (simp only at hl; subst hl; rfl)
        rw [er]
        exact ⟨⟨some (.sh, d) :: e0, by simp only [argS, hl.low, h1, Option.bind_some, Option.map_some]⟩, by simpa [muC] using h2⟩
      | ow => cases ha
      | mu =>
        simp only [argsAs, Bool.and_eq_true] at ha
        cases a with
        | «mut» i =>
          obtain ⟨v, vs', d, ds', rfl, rfl, hr, ⟨x, rfl⟩, hd⟩ := h
          obtain ⟨o, d⟩ := d
          simp only at hd
          subst hd
          obtain ⟨⟨e0, h1⟩, _⟩ := ihr hr ha.2
          exact ⟨by simp only [refr, argS, h1, Option.map_some]; exact ⟨_, rfl⟩, by simp [muC]⟩
        | _ => exact absurd ha.1 (by simp [isMutE])
  | _ => intro vs ds pm h; exact h.elim
theorem sh_argF {d' : Env} : ∀ {a : E} {vs : List Val} {ds : List (Option Nat × D)} {pm : List Sm}, ShA a vs ds → argsF pm a = true → (∃ env0, argF pm (refr d' vs) = some env0) ∧ muC ds = none ∧ pm.contains .mu = true ∧ a.noDic = false := by
  intro a
  induction a with
  | nil => intro vs ds pm h ha; cases pm with
    | nil => cases ha
    | cons m pm => cases m <;> (first | (cases ha; done) | (cases pm <;> cases ha))
  | cons a r iha ihr =>
    intro vs ds pm h ha
    cases pm with
    | nil => cases ha
    | cons m pm =>
      cases m with
      | sh =>
        cases a with
        | var i =>
          obtain ⟨v, vs', d, ds', rfl, rfl, hr, rfl, hd⟩ := h
          obtain ⟨o, d⟩ := d
          simp only at hd
          subst hd
          obtain ⟨⟨e0, h1⟩, h2, h3, h4⟩ := ihr hr ha
          exact ⟨⟨some (.sh, d) :: e0, by simp only [refr, argF, h1, Option.map_some]⟩, h2, by simpa using h3, h4⟩
        | _ => cases ha
      | ow => cases ha
      | mu =>
        cases pm with
        | cons => cases ha
        | nil =>
          cases a with
          | dic0 =>
            cases r with
            | nil =>
              obtain ⟨v, vs', d, ds', rfl, rfl, hr, rfl, rfl⟩ := h
              obtain ⟨rfl, rfl⟩ := hr
              exact ⟨⟨_, rfl⟩, rfl, rfl, rfl⟩
            | _ => cases ha
          | _ => cases ha
  | _ => intro vs ds pm h; exact h.elim
theorem argX_of {pm : List Sm} {vs : List Val} {e0 : Env} (h : argS pm vs = some e0) : argX pm vs = some e0 := by unfold argX; rw [h]
theorem argS_F : ∀ {pm : List Sm} {vs : List Val} {e0 : Env}, argF pm vs = some e0 → argS pm vs = none := by
  intro pm
  induction pm with
  | nil => intro vs e0 h; cases vs <;> cases h
  | cons m pm ih =>
    intro vs e0 h
    cases vs with
    | nil => cases m <;> (first | (cases h; done) | (cases pm <;> cases h))
    | cons v vs =>
      obtain ⟨md, d⟩ := v
      cases m with
      | sh =>
        cases md with
        | sh =>
          simp only [argF] at h
          obtain ⟨e', ee, rfl⟩ := Option.map_eq_some_iff.mp h
          simp only [argS, low, Option.bind_some, ih ee, Option.map_none]
        | _ => cases h
      | ow => cases h
      | mu =>
        cases md with
        | fr => rfl
        | _ => first | (cases h; done) | (cases pm <;> cases h)
theorem argX_F {pm : List Sm} {vs : List Val} {e0 : Env} (h : argF pm vs = some e0) : argX pm vs = some e0 := by unfold argX; rw [argS_F h]; exact h
end

/-! ### every expression -/
section
variable {X : Kx} {C : Calls} {CC : CCalls}
structure SimE (X : Kx) (C : Calls) (CC : CCalls) (e : E) : Prop where
  ev : okE X e = true → ∀ {β : Type} (env d : Env) (K : D → Env → P β), Rl X.Ow X.Mu env d → env.length = X.n → Sim X (Vv X e) K env (touchE e) (nxE X.Nx e) (cE CC e env K) (evE C e d)
  ar : okE X e = true → ∀ {β : Type} (env d : Env) (K : List (Option Nat × D) → Env → P β), Rl X.Ow X.Mu env d → env.length = X.n → Sim X (ShA e) K env (touchE e) (nxE X.Nx e) (cA CC e env K) (evA C e d)
theorem noAr {e : E} (h : ∀ {β : Type} (env : Env) (K : List (Option Nat × D) → Env → P β), cA CC e env K = .stuck) : okE X e = true → ∀ {β : Type} (env d : Env) (K : List (Option Nat × D) → Env → P β), Rl X.Ow X.Mu env d → env.length = X.n → Sim X (ShA e) K env (touchE e) (nxE X.Nx e) (cA CC e env K) (evA C e d) :=
  fun _ _ env d K _ _ => .inl (h env K)
/-- sealing, so that a goal keeps its form -/
theorem Sim.cast {β α α' : Type} {V : α → α' → Prop} {K : α' → Env → P β} {env : Env} {t t' : List Nat} {n n' : Bool} {p p' : P β} {r r' : R α} (h : Sim X V K env t n p r) (e1 : t = t') (e2 : n = n') (e3 : p = p') (e4 : r = r') : Sim X V K env t' n' p' r' := by
  subst e1 e2 e3 e4; exact h
theorem Sim.stuckR {β α α' : Type} {V : α → α' → Prop} {K : α' → Env → P β} {env : Env} {t : List Nat} {n : Bool} {p : P β} (h : p = .stuck) {r : R α} : Sim X V K env t n p r := .inl h
theorem ifP_no {β : Type} {b : Bool} {K : P β} (h : b = false) : ifP b K = .stuck := by rw [h]; rfl
theorem simE (hC : HC X C CC) (e : E) : SimE X C CC e := by
  induction e with
  | var i =>
    refine ⟨fun _ β env d K r _ => ?_, noAr fun _ _ => rfl⟩
    show Sim X _ K env [] true (match getS env i with | some s => (match s.1 with | .sh => K s.2 env | _ => .stuck) | none => .stuck) _
    cases hg : getS env i with
    | none => exact Sim.no
    | some s =>
      obtain ⟨m, x⟩ := s
      cases m with
      | sh =>
        have e : evE C (.var i) d = .ok (.sh, x) d := by simp only [evE, r.at' i _ hg]
        rw [e]
        exact .inr (.inl ⟨_, x, env, d, rfl, vv_sh (fun z => nomatch z), r, Ag.rfl', rfl⟩)
      | _ => exact Sim.no
  | own i =>
    refine ⟨fun _ β env d K r _ => ?_, noAr fun _ _ => rfl⟩
    show Sim X _ K env [] true (match getS env i with | some s => (match s.1 with | .sh => K s.2 env | _ => .stuck) | none => .stuck) _
    cases hg : getS env i with
    | none => exact Sim.no
    | some s =>
      obtain ⟨m, x⟩ := s
      cases m with
      | sh =>
        have e : evE C (.own i) d = .ok (.sh, x) d := by simp only [evE, r.at' i _ hg]
        rw [e]
        exact .inr (.inl ⟨_, x, env, d, rfl, vv_sh (fun z => nomatch z), r, Ag.rfl', rfl⟩)
      | _ => exact Sim.no
  | fz i =>
    refine ⟨fun _ β env d K r _ => ?_, noAr fun _ _ => rfl⟩
    show Sim X _ K env [i] true (match getS env i with | some s => (match s.1 with | .sh => K s.2 env | .ow => K s.2 (setS env i (some (.sh, s.2))) | .mu => .stuck) | none => .stuck) _
    cases hg : getS env i with
    | none => exact Sim.no
    | some s =>
      obtain ⟨m, x⟩ := s
      cases m with
      | sh =>
        have e : evE C (.fz i) d = .ok (.sh, x) d := by simp only [evE, r.at' i _ hg]
        rw [e]
        exact .inr (.inl ⟨_, x, env, d, rfl, vv_sh (fun z => nomatch z), r, Ag.rfl', rfl⟩)
      | ow =>
        have e : evE C (.fz i) d = .ok (.sh, x) (setS d i (some (.sh, x))) := by simp only [evE, r.at' i _ hg]
        rw [e]
        exact .inr (.inl ⟨_, x, _, _, rfl, vv_sh (fun z => nomatch z), r.sh, Ag.set (by simp), rfl⟩)
      | mu => exact Sim.no
  | mv i =>
    refine ⟨fun _ β env d K r _ => ?_, noAr fun _ _ => rfl⟩
    show Sim X _ K env [i] true (match getS env i with | some s => (match s.1 with | .ow => ldP s.2 (K s.2 (setS env i none)) | _ => .stuck) | none => .stuck) _
    cases hg : getS env i with
    | none => exact Sim.no
    | some s =>
      obtain ⟨m, x⟩ := s
      cases m with
      | ow =>
        have e : evE C (.mv i) d = .ok (.fr, x) (setS d i none) := by simp only [evE, r.at' i _ hg]
        rw [e]
        have go : LD x = true → Sim X (Vv X (.mv i)) K env [i] true (K x (setS env i none)) (.ok (.fr, x) (setS d i none)) := fun hl =>
          .inr (.inl ⟨_, x, _, _, rfl, ⟨⟨rfl, .inr ⟨rfl, hl⟩⟩, fun _ _ => rfl⟩, r.no, Ag.set (by simp), rfl⟩)
        cases x with
        | lst ds => exact go rfl
        | dic ds => exact go rfl
        | _ => exact Sim.no
      | _ => exact Sim.no
  | «mut» i => exact ⟨fun _ β env d K r _ => Sim.no, noAr fun _ _ => rfl⟩
  | lit x =>
    refine ⟨fun _ β env d K r _ => ?_, noAr fun _ _ => rfl⟩
    have e : evE C (.lit x) d = .ok (.sh, x) d := by simp only [evE]
    rw [e]
    exact .inr (.inl ⟨_, x, env, d, rfl, vv_sh (fun z => by simpa [frE] using z), r, Ag.rfl', rfl⟩)
  | gl y x =>
    refine ⟨fun _ β env d K r _ => ?_, noAr fun _ _ => rfl⟩
    have e : evE C (.gl y x) d = .ok (.sh, x) d := by simp only [evE]
    rw [e]
    exact .inr (.inl ⟨_, x, env, d, rfl, vv_sh (fun z => nomatch z), r, Ag.rfl', rfl⟩)
  | un o a ih =>
    refine ⟨fun ok β env d K r hn => ?_, noAr fun _ _ => rfl⟩
    simp only [evE]
    refine Sim.bind0 (sim_bor r fun K => ih.ev ok env d K r hn) fun v x c' d' hv r' g => ?_
    rw [hv.1]
    refine sim_op r' fun v h => ?_
    rcases md1 h with ⟨h1, h2⟩ | ⟨h1, h2⟩
    · exact vv_of (.inl h1) fun _ z => by rw [h2] at z; cases z
    · exact vv_of (.inr ⟨h1, h2⟩) fun _ _ => h1
  | bin o a b iha ihb =>
    refine ⟨fun ok β env d K r hn => ?_, noAr fun _ _ => rfl⟩
    simp only [okE, Bool.and_eq_true, Bool.or_eq_true] at ok
    simp only [evE]
    refine Sim.bind (sim_bor r fun K => iha.ev ok.1.1 env d K r hn) fun v x c1 d1 hv r1 g1 => ?_
    have hn1 : c1.length = X.n := by rw [g1.len]; exact hn
    cases hc : (!(inpE a env && !b.quiet)) with
    | false => exact .inl rfl
    | true =>
    show Sim X _ K c1 _ _ (bor b c1 (cE CC b c1) fun y env => oP (op2 o x y) fun z => K z env) _
    have sb := sim_bor (K := fun y env => oP (op2 o x y) fun z => K z env) r1 fun K => ihb.ev ok.1.2 c1 d1 K r1 hn1
    cases hi : (o == .index && !isLV v) with
    | true =>
      rw [if_pos rfl]
      simp only [Bool.and_eq_true, beq_iff_eq, Bool.not_eq_true'] at hi
      obtain ⟨rfl, hl⟩ := hi
      have nx : nxE X.Nx b = true := by simpa using ok.2
      rcases sb with h | ⟨w, y, c2, d2, h1, h2, h3, h4, h5⟩ | ⟨_, _, _, _, h, _⟩
      · exact .inl h
      · refine .inl ?_
        rw [h5]
        unfold isLV at hl
        rw [hv.1] at hl
        cases x with
        | lst ds => cases hl
        | _ => rfl
      · rw [nx] at h; cases h
    | false =>
      rw [if_neg (by decide)]
      refine Sim.bind0 sb fun w y c2 d2 hw r2 g2 => ?_
      have hc' : (inp v && !b.quiet) = false := by rw [hv.2]; exact (Bool.not_eq_true' _ ▸ hc : _ = false)
      rw [hc', if_neg (by decide), hv.1, hw.1]
      refine sim_op r2 fun z h => vv_of (md2 h) fun hf => ?_
      cases o with
      | add => exact mdAdd h
      | _ => cases hf
  | sl a lo hi iha ihl ihh =>
    refine ⟨fun ok β env d K r hn => ?_, noAr fun _ _ => rfl⟩
    simp only [okE, Bool.and_eq_true] at ok
    simp only [evE]
    refine Sim.bind (sim_bor r fun K => iha.ev ok.1 env d K r hn) fun v x c1 d1 hv r1 g1 => ?_
    have hn1 : c1.length = X.n := by rw [g1.len]; exact hn
    cases hc : (!(inpE a env && !(lo.quiet && hi.quiet))) with
    | false => exact .inl rfl
    | true =>
    show Sim X _ K c1 _ _ (cO lo (cE CC lo c1) c1 fun l env => cO hi (cE CC hi env) env fun h env => oP (opSl x l h) fun z => K z env) _
    refine Sim.bind (sim_O r1 fun K => ihl.ev ok.2.1 c1 d1 K r1 hn1) fun l l' c2 d2 hl r2 g2 => ?_
    subst hl
    have hn2 : c2.length = X.n := by rw [g2.len]; exact hn1
    refine Sim.bind0 (sim_O r2 fun K => ihh.ev ok.2.2 c2 d2 K r2 hn2) fun u u' c3 d3 hu r3 g3 => ?_
    subst hu
    have hc' : (inp v && !(lo.quiet && hi.quiet)) = false := by rw [hv.2]; exact (Bool.not_eq_true' _ ▸ hc : _ = false)
    rw [hc', if_neg (by decide), hv.1]
    refine sim_op r3 fun z h => ?_
    rcases mdS h with ⟨h1, h2⟩ | ⟨h1, h2⟩
    · exact vv_of (.inl h1) fun _ z => by rw [h2] at z; cases z
    · exact vv_of (.inr ⟨h1, h2⟩) fun _ _ => h1
  | nix =>
    refine ⟨fun _ β env d K r _ => ?_, noAr fun _ _ => rfl⟩
    have e : evE C .nix d = .ok (.sh, .non) d := by simp only [evE]
    rw [e]
    exact .inr (.inl ⟨_, .non, env, d, rfl, vv_sh (fun z => rfl), r, Ag.rfl', rfl⟩)
  | chain o o' a b c iha ihb ihc =>
    refine ⟨fun ok β env d K r hn => ?_, noAr fun _ _ => rfl⟩
    simp only [okE, Bool.and_eq_true] at ok
    obtain ⟨⟨o1, o2⟩, oa, ob, oc⟩ := ok
    simp only [evE]
    refine Sim.bind (iha.ev oa env d _ r hn) fun v x c1 d1 hv r1 g1 => ?_
    have hn1 : c1.length = X.n := by rw [g1.len]; exact hn
    refine Sim.bind (ihb.ev ob c1 d1 _ r1 hn1) fun w y c2 d2 hw r2 g2 => ?_
    have hn2 : c2.length = X.n := by rw [g2.len]; exact hn1
    cases ho : op2 o x y with
    | none => exact .inl (by simp [oP])
    | some z =>
      obtain ⟨l1, l2, t, rfl⟩ := cmp_int o1 ho
      rw [hv.1.sh l1, hw.1.sh l2]
      simp only [ho]
      show Sim X _ K c2 (touchE c) (nxE X.Nx c) (scC (touchE c) (keepE c) c2 t (fun k => cE CC c c2 fun w env => oP (op2 o' y w) fun z => k z env) (fun k => k (.bl false) c2) K) _
      have h1 : ∀ K' : D → Env → P β, Sim X (Vv X (.chain o o' a b c)) K' c2 (touchE c) (nxE X.Nx c) (cE CC c c2 fun w env => oP (op2 o' y w) fun z => K' z env) ((evE C c d2).bind fun w env => match w with | (.sh, dw) => ofO (op2 o' y dw) env | _ => .stuck) := fun K' => by
        refine Sim.bind0 (ihc.ev oc c2 d2 _ r2 hn2) fun w3 z3 c3 d3 hw3 r3 g3 => ?_
        cases ho' : op2 o' y z3 with
        | none => exact .inl (by simp [oP])
        | some zz =>
          obtain ⟨_, l3, t3, rfl⟩ := cmp_int o2 ho'
          rw [hw3.1.sh l3]
          simp only [ho', ofO]
          exact .inr (.inl ⟨_, .bl t3, c3, d3, rfl, vv_sh (fun z => nomatch z), r3, Ag.rfl', rfl⟩)
      have h2 : ∀ K' : D → Env → P β, Sim X (Vv X (.chain o o' a b c)) K' c2 (touchE c) (nxE X.Nx c) (K' (.bl false) c2) (.ok (.sh, .bl false) d2) := fun K' => .inr (.inl ⟨_, .bl false, c2, d2, rfl, vv_sh (fun z => nomatch z), r2, Ag.rfl', rfl⟩)
      have := sim_sc (K := K) (b := t) (keep_touch c) h1 h2
      cases t with
      | true => exact this
      | false => exact this
  | and a b iha ihb =>
    refine ⟨fun ok β env d K r hn => ?_, noAr fun _ _ => rfl⟩
    simp only [okE, Bool.and_eq_true] at ok
    simp only [evE]
    refine Sim.bind (iha.ev ok.1 env d _ r hn) fun v x c1 d1 hv r1 g1 => ?_
    have hn1 : c1.length = X.n := by rw [g1.len]; exact hn
    cases x with
    | bl t =>
      rw [hv.1.sh rfl]
      have h1 : ∀ K' : D → Env → P β, Sim X (Vv X (.and a b)) K' c1 (touchE b) (nxE X.Nx b) (cE CC b c1 K') (evE C b d1) := fun K' => (ihb.ev ok.2 c1 d1 K' r1 hn1).weak fun _ _ q => ⟨q.1, fun z => nomatch z⟩
      have h2 : ∀ K' : D → Env → P β, Sim X (Vv X (.and a b)) K' c1 (touchE b) (nxE X.Nx b) (K' (.bl false) c1) (.ok (.sh, .bl false) d1) := fun K' => .inr (.inl ⟨_, .bl false, c1, d1, rfl, vv_sh (fun z => nomatch z), r1, Ag.rfl', rfl⟩)
      have := sim_sc (K := K) (b := t) (keep_touch b) h1 h2
      cases t with
      | true => exact this
      | false => exact this
    | _ => exact .inl rfl
  | or a b iha ihb =>
    refine ⟨fun ok β env d K r hn => ?_, noAr fun _ _ => rfl⟩
    simp only [okE, Bool.and_eq_true] at ok
    simp only [evE]
    refine Sim.bind (iha.ev ok.1 env d _ r hn) fun v x c1 d1 hv r1 g1 => ?_
    have hn1 : c1.length = X.n := by rw [g1.len]; exact hn
    cases x with
    | bl t =>
      rw [hv.1.sh rfl]
      have h1 : ∀ K' : D → Env → P β, Sim X (Vv X (.or a b)) K' c1 (touchE b) (nxE X.Nx b) (cE CC b c1 K') (evE C b d1) := fun K' => (ihb.ev ok.2 c1 d1 K' r1 hn1).weak fun _ _ q => ⟨q.1, fun z => nomatch z⟩
      have h2 : ∀ K' : D → Env → P β, Sim X (Vv X (.or a b)) K' c1 (touchE b) (nxE X.Nx b) (K' (.bl true) c1) (.ok (.sh, .bl true) d1) := fun K' => .inr (.inl ⟨_, .bl true, c1, d1, rfl, vv_sh (fun z => nomatch z), r1, Ag.rfl', rfl⟩)
      have := sim_sc (K := K) (b := t) (keep_touch b) h2 h1
      cases t with
      | true => exact this
      | false => exact this
    | _ => exact .inl rfl
  | one a ih =>
    refine ⟨fun ok β env d K r hn => ?_, noAr fun _ _ => rfl⟩
    simp only [evE]
    exact (ih.ev ok env d K r hn).weak fun _ _ q => ⟨q.1, fun z => nomatch z⟩
  | not a ih =>
    refine ⟨fun ok β env d K r hn => ?_, noAr fun _ _ => rfl⟩
    simp only [evE]
    refine Sim.bind0 (ih.ev ok env d _ r hn) fun v x c1 d1 hv r1 g1 => ?_
    cases x with
    | bl t =>
      rw [hv.1.sh rfl]
      exact .inr (.inl ⟨_, .bl (!t), c1, d1, rfl, vv_sh (fun _ => rfl), r1, Ag.rfl', rfl⟩)
    | _ => exact .inl rfl
  | ite c a b _ _ _ => exact ⟨(fun ok => nomatch ok), noAr fun _ _ => rfl⟩
  | nil =>
    refine ⟨fun _ β env d K r _ => Sim.no, fun _ β env d K r _ => ?_⟩
    have e : evA C .nil d = .ok [] d := by simp only [evA]
    rw [e]
    exact .inr (.inl ⟨[], [], env, d, rfl, ⟨rfl, rfl⟩, r, Ag.rfl', rfl⟩)
  | cons a b iha ihb =>
    refine ⟨fun _ β env d K r _ => Sim.no, fun ok β env d K r hn => ?_⟩
    simp only [okE, Bool.and_eq_true] at ok
    simp only [evA]
    cases hm : isMutE a with
    | true =>
      cases a with
      | «mut» i =>
        show Sim X _ K env _ _ (ifP (isOw env i) (cA CC b env fun vs env => K ((some i, contC env i) :: vs) env)) _
        cases ho : isOw env i with
        | false => exact .inl rfl
        | true =>
          show Sim X _ K env _ _ (cA CC b env fun vs env => K ((some i, contC env i) :: vs) env) _
          have hs : ∃ s, getS env i = some s ∧ s.1 ≠ .sh := by
            cases hg : getS env i with
            | none => rw [isOw_no' hg] at ho; cases ho
            | some s => exact ⟨s, rfl, fun z => by rw [isOw_at hg, z] at ho; cases ho⟩
          obtain ⟨⟨m, x⟩, hg, hm⟩ := hs
          have e : evE C (.mut i) d = .ok (.mu i, x) d := by
            simp only [evE, r.at' i _ hg]
            cases m with
            | sh => exact absurd rfl hm
            | ow => rfl
            | mu => rfl
          rw [e]
          simp only [R.bind_ok]
          refine (Sim.bind0 (ihb.ar ok.2 env d _ r hn) fun vs ds c2 d2 hv r2 g2 => ?_).mono (fun j hj => by simp [touchE, hj]) (fun z => by simpa [nxE] using z)
          rw [if_neg (by simp [inp])]
          exact .inr (.inl ⟨_, _, c2, d2, rfl, ⟨_, _, _, _, rfl, rfl, hv, ⟨_, rfl⟩, rfl⟩, r2, Ag.rfl', rfl⟩)
      | _ => cases hm
    | false =>
      have ec : cA CC (.cons a b) env K = cE CC a env fun d env => cA CC b env fun vs env => K ((none, d) :: vs) env := by
        cases a <;> first | rfl | (cases hm; done)
      rw [ec]
      have sa := iha.ev ok.1 env d (fun d env => cA CC b env fun vs env => K ((none, d) :: vs) env) r hn
      have fin : ∀ (v : Val) (x : D) (c1 d1 : Env), lowV v x → (∀ vs ds, ShA b vs ds → ShA (.cons a b) (v :: vs) ((none, x) :: ds)) → Rl X.Ow X.Mu c1 d1 → c1.length = X.n → Sim X (ShA (.cons a b)) K c1 (touchE b) (nxE X.Nx b) (cA CC b c1 fun vs env => K ((none, x) :: vs) env) ((evA C b d1).bind fun vs env => if inp v then .stuck else .ok (v :: vs) env) := fun v x c1 d1 hv hsh r1 hn1 => by
        refine Sim.bind0 (ihb.ar ok.2 c1 d1 _ r1 hn1) fun vs ds c2 d2 hvs r2 g2 => ?_
        rw [hv.inp, if_neg (by decide)]
        exact .inr (.inl ⟨_, _, c2, d2, rfl, hsh vs ds hvs, r2, Ag.rfl', rfl⟩)
      have gen : (∀ (v : Val) (x : D), Vv X a v x → evE C a d = evE C a d → lowV v x) := fun v x hv _ => hv.1
      cases a with
      | «mut» i => cases hm
      | var i =>
        show Sim X _ K env _ _ (match getS env i with | some s => (match s.1 with | .sh => cA CC b env fun vs env => K ((none, s.2) :: vs) env | _ => .stuck) | none => .stuck) _
        cases hg : getS env i with
        | none => exact Sim.no
        | some s =>
          obtain ⟨m, x⟩ := s
          cases m with
          | sh =>
            have e : evE C (.var i) d = .ok (.sh, x) d := by simp only [evE, r.at' i _ hg]
            rw [e]
            exact (fin (.sh, x) x env d (lowV.one x) (fun vs ds h => ⟨_, _, _, _, rfl, rfl, h, rfl, rfl⟩) r hn).mono (fun j hj => by simp [touchE, hj]) (fun z => by simpa [nxE] using z)
          | _ => exact Sim.no
      | dic0 =>
        have e : evE C .dic0 d = .ok (.fr, .dic []) d := by simp only [evE]
        rw [e]
        exact (fin (.fr, .dic []) (.dic []) env d ⟨rfl, .inr ⟨rfl, rfl⟩⟩ (fun vs ds h => ⟨_, _, _, _, rfl, rfl, h, rfl, rfl⟩) r hn).mono (fun j hj => by simp [touchE, hj]) (fun z => by simpa [nxE] using z)
      | _ => exact Sim.bind sa fun v x c1 d1 hv r1 g1 => fin v x c1 d1 hv.1 (fun vs ds h => ⟨_, _, _, _, rfl, rfl, h, hv.1, rfl⟩) r1 (by rw [g1.len]; exact hn)
  | tup a ih =>
    refine ⟨fun ok β env d K r hn => ?_, noAr fun _ _ => rfl⟩
    simp only [okE, Bool.and_eq_true, decide_eq_true_eq] at ok
    simp only [evE]
    refine Sim.bind0 (ih.ar ok.1.1 env d _ r hn) fun vs ds c1 d1 hv r1 g1 => ?_
    obtain ⟨h1, h2⟩ := sh_lows hv ok.1.2
    have hz : szOk (ds.map (·.2)).length = true := decide_eq_true (by rw [List.length_map, h2, sizeLine_eq]; omega)
    simp only [h1, hz, if_true]
    exact .inr (.inl ⟨_, _, c1, d1, rfl, vv_sh (fun _ => rfl), r1, Ag.rfl', rfl⟩)
  | lst a ih =>
    refine ⟨fun ok β env d K r hn => ?_, noAr fun _ _ => rfl⟩
    simp only [okE, Bool.and_eq_true, decide_eq_true_eq] at ok
    simp only [evE]
    refine Sim.bind0 (ih.ar ok.1.1 env d _ r hn) fun vs ds c1 d1 hv r1 g1 => ?_
    obtain ⟨h1, h2⟩ := sh_lows hv ok.1.2
    have hz : szOk (ds.map (·.2)).length = true := decide_eq_true (by rw [List.length_map, h2, sizeLine_eq]; omega)
    simp only [h1, hz, if_true]
    exact .inr (.inl ⟨_, _, c1, d1, rfl, ⟨⟨rfl, .inr ⟨rfl, rfl⟩⟩, fun _ _ => rfl⟩, r1, Ag.rfl', rfl⟩)
  | dic0 =>
    refine ⟨fun _ β env d K r _ => ?_, noAr fun _ _ => rfl⟩
    have e : evE C .dic0 d = .ok (.fr, .dic []) d := by simp only [evE]
    rw [e]
    exact .inr (.inl ⟨_, .dic [], env, d, rfl, ⟨⟨rfl, .inr ⟨rfl, rfl⟩⟩, fun _ _ => rfl⟩, r, Ag.rfl', rfl⟩)
  | dic1 a b iha ihb =>
    refine ⟨fun ok β env d K r hn => ?_, noAr fun _ _ => rfl⟩
    simp only [okE, Bool.and_eq_true] at ok
    simp only [evE]
    refine Sim.bind (iha.ev ok.1 env d _ r hn) fun v x c1 d1 hv r1 g1 => ?_
    refine Sim.bind0 (ihb.ev ok.2 c1 d1 _ r1 (by rw [g1.len]; exact hn)) fun w y c2 d2 hw r2 g2 => ?_
    cases x with
    | str s =>
      rw [hv.1.sh rfl]
      simp only [hw.1.low]
      exact .inr (.inl ⟨_, _, c2, d2, rfl, ⟨⟨rfl, .inr ⟨rfl, rfl⟩⟩, fun _ _ => rfl⟩, r2, Ag.rfl', rfl⟩)
    | _ => exact .inl rfl
  | dic2 a b c e iha ihb ihc ihe =>
    refine ⟨fun ok β env d K r hn => ?_, noAr fun _ _ => rfl⟩
    simp only [okE, Bool.and_eq_true] at ok
    simp only [evE]
    refine Sim.bind (iha.ev ok.1 env d _ r hn) fun v x c1 d1 hv r1 g1 => ?_
    have hn1 : c1.length = X.n := by rw [g1.len]; exact hn
    refine Sim.bind (ihb.ev ok.2.1 c1 d1 _ r1 hn1) fun w y c2 d2 hw r2 g2 => ?_
    have hn2 : c2.length = X.n := by rw [g2.len]; exact hn1
    refine Sim.bind (ihc.ev ok.2.2.1 c2 d2 _ r2 hn2) fun v3 x3 c3 d3 hv3 r3 g3 => ?_
    refine Sim.bind0 (ihe.ev ok.2.2.2 c3 d3 _ r3 (by rw [g3.len]; exact hn2)) fun w4 y4 c4 d4 hw4 r4 g4 => ?_
    cases x with
    | str s =>
      cases x3 with
      | str s3 =>
        rw [hv.1.sh rfl, hv3.1.sh rfl]
        simp only [hw.1.low, hw4.1.low]
        exact .inr (.inl ⟨_, _, c4, d4, rfl, ⟨⟨rfl, .inr ⟨rfl, rfl⟩⟩, fun _ _ => rfl⟩, r4, Ag.rfl', rfl⟩)
      | _ => exact .inl rfl
    | _ => exact .inl rfl
  | call f a ih =>
    refine ⟨fun ok β env d K r hn => ?_, noAr fun _ _ => rfl⟩
    simp only [okE, Bool.and_eq_true] at ok
    cases hF : X.T.lookup f with
    | none => rw [hF] at ok; exact absurd ok.2 (by simp)
    | some F =>
      rw [hF] at ok
      simp only [Bool.and_eq_true, Bool.or_eq_true] at ok
      obtain ⟨oa, hargs, hone⟩ := ok
      simp only [evE]
      refine (Sim.bind (nb := X.Nx.contains f) (u := touchE a) (ih.ar oa env d _ r hn) fun vs ds c1 d1 hv r1 g1 => ?_).mono (fun i hi => by simpa [touchE] using hi) (fun z => by simp only [nxE, Bool.and_eq_true] at z ⊢; exact ⟨z.2, z.1⟩)
      show Sim X _ K c1 _ _ (ifP (muCk c1 ds) ((CC f (refC c1 ds)).bind fun p => match muC ds with | none => K p.1 c1 | some i => K p.1 (setS c1 i (some (moOf c1 i, p.2))))) _
      cases hk : muCk c1 ds with
      | false => exact .inl rfl
      | true =>
        show Sim X _ K c1 _ _ ((CC f (refC c1 ds)).bind fun p => match muC ds with | none => K p.1 c1 | some i => K p.1 (setS c1 i (some (moOf c1 i, p.2)))) _
        obtain ⟨hmo, href⟩ := sh_ok r1 hv hk
        obtain ⟨hmu, hmq⟩ := sh_mu hv
        have hq : ((a.quiet && (muOf vs).isSome) || !muOk d1 vs) = false := by
          rw [hmo, hmu]
          cases hi : muC ds with
          | none => simp
          | some i => simp [(hmq i hi).1]
        rw [hq, if_neg (by decide)]
        have hx : ∃ env0, argX F.pm (refr d1 vs) = some env0 ∧ ((F.pm.contains .mu = (muC ds).isSome) ∨ (muC ds = none ∧ F.pm.contains .mu = true ∧ a.noDic = false)) := by
          rcases hargs with h | h
          · obtain ⟨⟨e0, q1⟩, q2⟩ := sh_arg (d' := d1) hv h
            exact ⟨e0, argX_of q1, .inl q2⟩
          · obtain ⟨⟨e0, q1⟩, q2, q3, q4⟩ := sh_argF (d' := d1) hv h
            exact ⟨e0, argX_F q1, .inr ⟨q2, q3, q4⟩⟩
        obtain ⟨env0, hx, hmm⟩ := hx
        rcases hC.call f F hF (refr d1 vs) env0 hx hone with h | ⟨v, x, w, h1, h2, h3, h4⟩ | ⟨x, h1, h2, h3, h4⟩
        · rw [href] at h; exact .inl (by rw [h]; rfl)
        · rw [href] at h1
          rw [h1, h2]
          have hvv : Vv X (.call f a) v x := ⟨h3, h4⟩
          rcases hmm with hmm | ⟨m1, m2, m3⟩
          · cases hi : muC ds with
            | none =>
              rw [hi] at hmm hmu
              have hmm' : F.pm.contains .mu = false := hmm
              rw [if_neg (by rw [hmm']; decide)]
              simp only [hmu]
              exact .inr (.inl ⟨v, x, c1, d1, rfl, hvv, r1, Ag.rfl', rfl⟩)
            | some i =>
              rw [hi] at hmm hmu
              have hmm' : F.pm.contains .mu = true := hmm
              rw [if_pos hmm']
              simp only [hmu]
              have hs : ∃ s, getS c1 i = some s := by
                have hck : isOw c1 i = true := by
                  clear href hmq hq h1 h2 hx hmu hv hmo
                  induction ds with
                  | nil => cases hi
                  | cons p ds ih =>
                    obtain ⟨o, z⟩ := p
                    cases o with
                    | none => exact ih hk hi
                    | some j => simp only [muCk, Bool.and_eq_true] at hk; cases hi; exact hk.1
                cases hg : getS c1 i with
                | none => rw [isOw_no' hg] at hck; cases hck
                | some s => exact ⟨s, rfl⟩
              obtain ⟨⟨m, y⟩, hg⟩ := hs
              have hp : putBack d1 i w = setS d1 i (some (m, w)) := by simp only [putBack, r1.at' i _ hg]
              have hmo' : moOf c1 i = m := by simp only [moOf, hg]
              rw [hp]
              refine .inr (.inl ⟨v, x, setS c1 i (some (m, w)), _, rfl, hvv, r1.put hg, Ag.set (hmq i hi).2, ?_⟩)
              show K x (setS c1 i (some (moOf c1 i, w))) = _
              rw [hmo']
          · rw [if_pos m2]
            rw [m1] at hmu
            simp only [hmu, m3, Bool.and_false, if_neg (show ¬ (false = true) by decide), m1]
            exact .inr (.inl ⟨v, x, c1, d1, rfl, hvv, r1, Ag.rfl', by simp [P.bind]⟩)
        · rw [href] at h1
          rw [h1, h2]
          have hno : muC ds = none := by
            rcases hmm with hmm | ⟨m1, _⟩
            · rw [h3] at hmm
              cases hi : muC ds with
              | none => rfl
              | some i => rw [hi] at hmm; cases hmm
            · exact m1
          rw [hno] at hmu
          simp only [hmu]
          exact .inr (.inr ⟨x, d1, rfl, r1.wipe, h4, rfl⟩)
  | lc own tg k a b c e iha ihb ihc ihe =>
    refine ⟨fun ok β env d K r hn => ?_, noAr fun _ _ => rfl⟩
    simp only [okE, Bool.and_eq_true] at ok
    obtain ⟨⟨⟨⟨⟨⟨⟨⟨⟨oa, ob, oc, oe⟩, hk⟩, ho⟩, ht1⟩, ht2⟩, hl⟩, nc⟩, ne⟩, hvt⟩ := ok
    simp only [evE]
    have hI := sim_I (K := fun xs env => (fun (t : List Nat) (e0 : Env) => optP (getA env env t) fun st => lcC (fun st x k => bnd tg x (putA env e0 t st) fun e1 => cE CC c e1 fun b e2 => asB b fun b => bif b then cE CC e e2 fun d e3 => optP (getA env e3 t) fun st => k (some d) st else optP (getA env e2 t) fun st => k none st) xs st [] fun acc st => K (.lst acc) (putA env e0 t st))
      (touchE c ++ touchE e) (wipeE env (own.map (·.2) ++ (touchE c ++ touchE e)))) hk (fun K => iha.ev oa env d K r hn) hn (fun env d K r hn => ihb.ev ob env d K r hn)
    refine (Sim.bind (u := own.map (·.2) ++ (tgL tg ++ (touchE c ++ touchE e))) (nb := true) hI fun xs xs' c1 d1 hx r1 g1 => ?_).mono (fun j hj => by simpa [touchE] using hj) (fun z => by simpa [nxE] using z)
    obtain ⟨rfl, hsz⟩ := hx
    have hn1 : c1.length = X.n := by rw [g1.len]; exact hn
    rw [owSub r1 ho, if_neg (by decide)]
    show Sim X _ K c1 _ true (optP (getA c1 c1 (touchE c ++ touchE e)) fun st => lcC (fun st x k => bnd tg x (putA c1 (wipeE c1 (own.map (·.2) ++ (touchE c ++ touchE e))) (touchE c ++ touchE e) st) fun e1 => cE CC c e1 fun b e2 => asB b fun b => bif b then cE CC e e2 fun d e3 => optP (getA c1 e3 (touchE c ++ touchE e)) fun st => k (some d) st else optP (getA c1 e2 (touchE c ++ touchE e)) fun st => k none st) xs st [] fun acc st => K (.lst acc) (putA c1 (wipeE c1 (own.map (·.2) ++ (touchE c ++ touchE e))) (touchE c ++ touchE e) st)) _
    cases hst : getA c1 c1 (touchE c ++ touchE e) with
    | none => exact .inl rfl
    | some st =>
      have hl1 : (wipeE c1 (own.map (·.2) ++ (touchE c ++ touchE e))).length = c1.length := lWipe _
      have main := sim_lc (X := X) (C := C) (CC := CC) (K2 := fun acc env => K (.lst acc) env) (env := c1) (tg := tg) (vs := own.map (·.2)) (t := touchE c ++ touchE e) rfl
        (List.all_eq_true.mpr fun j hj => by
          have h1 := mem_outL ho (mem_inL ht1 hj)
          cases hb : X.Mu.contains j with
          | false => rfl
          | true => exact absurd (X.sub j (List.contains_iff_mem.mp hb)) h1)
        ht1 (List.all_eq_true.mpr fun j hj => by rw [hn1]; exact List.all_eq_true.mp hl j (mem_inL ht1 hj)) ho hvt (fun _ _ _ => rfl) nc ne hn1 (fun env d K r hn => ihc.ev oc env d K r hn) (fun env d K r hn => ihe.ev oe env d K r hn)
        xs st [] (wipeE d1 (own.map (·.2))) ⟨by rw [putA_len, lWipe, lWipe]; exact r1.len, fun i s q => ?_, fun i h => ?_, fun i h => ?_⟩ (fun i hi => by rw [putA_get hst hl1, if_neg hi]) (by simpa [szOk] using hsz)
      · rcases main with h | ⟨acc, acc', c2, d2, h1, h2, h3, h4, h5⟩ | ⟨_, _, _, _, h, _⟩
        · exact .inl h
        · subst h2
          rw [h1]
          exact .inr (.inl ⟨_, _, c2, d2, rfl, ⟨⟨rfl, .inr ⟨rfl, rfl⟩⟩, fun _ _ => rfl⟩, h3, h4, h5⟩)
        · cases h
      · rw [putA_get hst hl1] at q
        rw [gWipe]
        split at q
        · rename_i hi
          rw [if_neg (fun z => mem_outL hvt z hi)]
          exact r1.at' i s q
        · rename_i hi
          rw [gWipe] at q
          split at q
          · cases q
          · rename_i hn
            rw [if_neg (fun z => hn (by simp [z]))]
            exact r1.at' i s q
      · refine r1.ow i ?_
        by_cases hv : i ∈ own.map (·.2)
        · rw [isOw_no' (show getS (wipeE d1 (own.map (·.2))) i = none by rw [gWipe, if_pos hv])] at h; cases h
        · unfold isOw at h ⊢
          rw [gWipe, if_neg hv] at h; exact h
      · refine r1.mu i ?_
        by_cases hv : i ∈ own.map (·.2)
        · rw [isMu_no (show getS (wipeE d1 (own.map (·.2))) i = none by rw [gWipe, if_pos hv])] at h; cases h
        · unfold isMu at h ⊢
          rw [gWipe, if_neg hv] at h; exact h
  | get a b c iha ihb ihc =>
    refine ⟨fun ok β env d K r hn => ?_, noAr fun _ _ => rfl⟩
    simp only [okE, Bool.and_eq_true] at ok
    simp only [evE]
    refine Sim.bind (sim_bor r fun K => iha.ev ok.1 env d K r hn) fun v x c1 d1 hv r1 g1 => ?_
    have hn1 : c1.length = X.n := by rw [g1.len]; exact hn
    cases x with
    | dic kvs =>
      rw [hv.1]
      show Sim X _ K c1 _ _ (ifP (!(!strK kvs || (inpE a env && !(b.quiet && c.quiet)))) (cE CC b c1 fun kk env => cE CC c env fun xx env => asS kk fun y => K ((dget kvs (.str y)).getD xx) env)) _
      rw [← hv.2]
      cases hc : (!strK kvs || (inp v && !(b.quiet && c.quiet))) with
      | true => exact .inl rfl
      | false =>
        simp only [hc, if_neg (show ¬ (false = true) by decide)]
        show Sim X _ K c1 _ _ (cE CC b c1 fun kk env => cE CC c env fun xx env => asS kk fun y => K ((dget kvs (.str y)).getD xx) env) _
        refine Sim.bind (ihb.ev ok.2.1 c1 d1 _ r1 hn1) fun w y c2 d2 hw r2 g2 => ?_
        refine Sim.bind0 (ihc.ev ok.2.2 c2 d2 _ r2 (by rw [g2.len]; exact hn1)) fun u z c3 d3 hu r3 g3 => ?_
        cases y with
        | str s =>
          rw [hw.1.sh rfl]
          simp only [hu.1.low]
          exact .inr (.inl ⟨_, _, c3, d3, rfl, vv_sh (fun z => nomatch z), r3, Ag.rfl', rfl⟩)
        | _ => exact .inl rfl
    | _ => exact .inl rfl
  | pop i =>
    refine ⟨fun _ β env d K r _ => ?_, noAr fun _ _ => rfl⟩
    show Sim X _ K env [i] true (match getS env i with | some s => ifP (!(s.1 == .sh)) (asL s.2 fun ds => optP ds.getLast? fun d => K d (setS env i (some (s.1, .lst ds.dropLast)))) | none => .stuck) _
    cases hg : getS env i with
    | none => exact Sim.no
    | some s =>
      obtain ⟨m, x⟩ := s
      simp only [evE, r.at' i _ hg]
      cases hm : (m == Sm.sh) with
      | true => exact .inl (by simp [hm, ifP])
      | false =>
        cases x with
        | lst ds =>
          simp only [hm, if_neg (show ¬ (false = true) by decide)]
          cases hl : ds.getLast? with
          | none => exact .inl (by simp [ifP, asL, optP, hl])
          | some z =>
            refine .inr (.inl ⟨(.sh, z), z, setS env i (some (m, .lst ds.dropLast)), _, rfl, vv_sh (fun z => nomatch z), r.put hg, Ag.set (by simp), ?_⟩)
            simp [ifP, asL, optP, hl]
        | _ => exact .inl (by simp [hm, ifP, asL])
  | popAt i a ih =>
    refine ⟨fun ok β env d K r hn => ?_, noAr fun _ _ => rfl⟩
    simp only [okE, Bool.and_eq_true, Bool.not_eq_true'] at ok
    obtain ⟨⟨oa, hi⟩, nx⟩ := ok
    have hi' : i ∉ touchE a := fun z => by rw [List.contains_iff_mem.mpr z] at hi; cases hi
    simp only [evE]
    have sa := ih.ev oa env d (fun v env => asI v fun j => (match getS env i with
      | some s => ifP (!(s.1 == .sh)) (asL s.2 fun ds => ifP (szOk ds.length) (optP (L2.ixN ds.length j) fun n => optP ds[n]? fun d => K d (setS env i (some (s.1, .lst (ds.eraseIdx n))))))
      | none => .stuck)) r hn
    cases hl : isLO d i with
    | false =>
      rw [Bool.not_false, if_pos rfl]
      rcases sa with h | ⟨v, x, c1, d1, h1, h2, h3, h4, h5⟩ | ⟨_, _, _, _, h, _⟩
      · exact .inl h
      · refine .inl (h5.trans ?_)
        cases x with
        | int j =>
          show (match getS c1 i with
            | some s => ifP (!(s.1 == Sm.sh)) (asL s.2 fun ds => ifP (szOk ds.length) (optP (L2.ixN ds.length j) fun n => optP ds[n]? fun d => K d (setS c1 i (some (s.1, .lst (ds.eraseIdx n))))))
            | none => .stuck) = .stuck
          rw [h4.at' i hi']
          cases hg : getS env i with
          | none => rfl
          | some s =>
            obtain ⟨m, y⟩ := s
            have hd := r.at' i _ hg
            unfold isLO at hl
            rw [hd] at hl
            cases m with
            | sh => rfl
            | ow => cases y with
              | lst => cases hl
              | _ => rfl
            | mu => cases y with
              | lst => cases hl
              | _ => rfl
        | _ => rfl
      · rw [nx] at h; cases h
    | true =>
      rw [Bool.not_true, if_neg (by decide)]
      refine (Sim.bind (u := [i]) (nb := true) sa fun v x c1 d1 hv r1 g1 => ?_).mono (fun j hj => by simpa [touchE] using hj) (fun z => by simpa [nxE] using z)
      cases x with
      | int j =>
        rw [hv.1.sh rfl]
        show Sim X _ K c1 [i] true (match getS c1 i with
            | some s => ifP (!(s.1 == .sh)) (asL s.2 fun ds => ifP (szOk ds.length) (optP (L2.ixN ds.length j) fun n => optP ds[n]? fun d => K d (setS c1 i (some (s.1, .lst (ds.eraseIdx n))))))
            | none => .stuck) _
        cases hg : getS c1 i with
        | none => exact Sim.no
        | some s =>
          obtain ⟨m, y⟩ := s
          simp only [r1.at' i _ hg]
          cases hm : (m == Sm.sh) with
          | true => exact .inl rfl
          | false =>
            cases y with
            | lst ds =>
              show Sim X _ K c1 [i] true (ifP (szOk ds.length) (optP (L2.ixN ds.length j) fun n => optP ds[n]? fun d => K d (setS c1 i (some (m, .lst (ds.eraseIdx n)))))) _
              cases hz : szOk ds.length with
              | false => exact .inl rfl
              | true =>
                simp only [hm, hz, Bool.not_true, Bool.or_self, if_neg (show ¬ (false = true) by decide)]
                cases hx : L2.ixN ds.length j with
                | none => exact .inl (by simp [ifP, optP, hx])
                | some n =>
                  cases hy : ds[n]? with
                  | none => exact .inl (by simp [ifP, optP, hx, hy])
                  | some z =>
                    simp only [hy]
                    refine .inr (.inl ⟨(Md.sh, z), z, setS c1 i (some (m, .lst (ds.eraseIdx n))), _, rfl, vv_sh (fun z => nomatch z), r1.put hg, Ag.set (by simp), ?_⟩)
                    simp [ifP, optP, hx, hy]
            | _ => exact .inl rfl
      | _ => exact .inl rfl
  | setdef i a b iha ihb =>
    refine ⟨fun ok β env d K r hn => ?_, noAr fun _ _ => rfl⟩
    simp only [okE, Bool.and_eq_true, Bool.not_eq_true'] at ok
    obtain ⟨⟨⟨⟨⟨oa, ob⟩, hia⟩, hib⟩, nxa⟩, nxb⟩ := ok
    have hia' : i ∉ touchE a := fun z => by rw [List.contains_iff_mem.mpr z] at hia; cases hia
    have hib' : i ∉ touchE b := fun z => by rw [List.contains_iff_mem.mpr z] at hib; cases hib
    simp only [evE]
    have sa := iha.ev oa env d (fun v env => cE CC b env fun w env => asS v fun y => (match getS env i with
      | some s => ifP (!(s.1 == .sh)) (asD s.2 fun kvs => ifP (strK kvs && szOk (kvs.length + 1)) (K ((dget kvs (.str y)).getD w) (setS env i (some (s.1, .dic (sdp kvs (.str y) w))))))
      | none => .stuck)) r hn
    have sb := fun v c1 d1 (r1 : Rl X.Ow X.Mu c1 d1) (hn1 : c1.length = X.n) => ihb.ev ob c1 d1 (fun w env => asS v fun y => (match getS env i with
      | some s => ifP (!(s.1 == .sh)) (asD s.2 fun kvs => ifP (strK kvs && szOk (kvs.length + 1)) (K ((dget kvs (.str y)).getD w) (setS env i (some (s.1, .dic (sdp kvs (.str y) w))))))
      | none => .stuck)) r1 hn1
    cases hl : isDO d i with
    | false =>
      rw [Bool.not_false, if_pos rfl]
      rcases sa with h | ⟨v, x, c1, d1, h1, h2, h3, h4, h5⟩ | ⟨_, _, _, _, h, _⟩
      · exact .inl h
      · refine .inl (h5.trans ?_)
        rcases sb x c1 d1 h3 (by rw [h4.len]; exact hn) with h | ⟨w, z, c2, d2, k1, k2, k3, k4, k5⟩ | ⟨_, _, _, _, h, _⟩
        · exact h
        · refine k5.trans ?_
          cases x with
          | str y =>
            show (match getS c2 i with
              | some s => ifP (!(s.1 == Sm.sh)) (asD s.2 fun kvs => ifP (strK kvs && szOk (kvs.length + 1)) (K ((dget kvs (.str y)).getD z) (setS c2 i (some (s.1, .dic (sdp kvs (.str y) z))))))
              | none => .stuck) = .stuck
            rw [k4.at' i hib', h4.at' i hia']
            cases hg : getS env i with
            | none => rfl
            | some s =>
              obtain ⟨m, y⟩ := s
              have hd := r.at' i _ hg
              unfold isDO at hl
              rw [hd] at hl
              cases m with
              | sh => rfl
              | ow => cases y with
                | dic kvs => show ifP (strK kvs && _) _ = _; rw [show strK kvs = false from hl]; rfl
                | _ => rfl
              | mu => cases y with
                | dic kvs => show ifP (strK kvs && _) _ = _; rw [show strK kvs = false from hl]; rfl
                | _ => rfl
          | _ => rfl
        · rw [nxb] at h; cases h
      · rw [nxa] at h; cases h
    | true =>
      rw [Bool.not_true, if_neg (by decide)]
      refine (Sim.bind (u := touchE b ++ [i]) (nb := nxE X.Nx b) sa fun v x c1 d1 hv r1 g1 => ?_).mono (fun j hj => by simpa [touchE] using hj) (fun z => by simpa [nxE] using z)
      refine (Sim.bind (u := [i]) (nb := true) (sb x c1 d1 r1 (by rw [g1.len]; exact hn)) fun w z c2 d2 hw r2 g2 => ?_).mono (fun j hj => hj) (fun z => by simpa using z)
      cases x with
      | str y =>
        rw [hv.1.sh rfl]
        show Sim X _ K c2 [i] true (match getS c2 i with
              | some s => ifP (!(s.1 == .sh)) (asD s.2 fun kvs => ifP (strK kvs && szOk (kvs.length + 1)) (K ((dget kvs (.str y)).getD z) (setS c2 i (some (s.1, .dic (sdp kvs (.str y) z))))))
              | none => .stuck) _
        cases hg : getS c2 i with
        | none => exact Sim.no
        | some s =>
          obtain ⟨m, u⟩ := s
          simp only [r2.at' i _ hg, hw.1.low]
          cases hm : (m == Sm.sh) with
          | true => exact .inl rfl
          | false =>
            cases u with
            | dic kvs =>
              show Sim X _ K c2 [i] true (ifP (strK kvs && szOk (kvs.length + 1)) (K ((dget kvs (.str y)).getD z) (setS c2 i (some (m, .dic (sdp kvs (.str y) z)))))) _
              cases hz : (strK kvs && szOk (kvs.length + 1)) with
              | false => exact .inl rfl
              | true =>
                simp only [Bool.and_eq_true] at hz
                simp only [hm, hz.1, hz.2, Bool.not_true, Bool.or_self, if_neg (show ¬ (false = true) by decide)]
                cases hx : dget kvs (.str y) with
                | some q =>
                  have es : sdp kvs (.str y) z = kvs := by simp [sdp, hx]
                  refine .inr (.inl ⟨(.sh, q), q, setS c2 i (some (m, .dic kvs)), d2, rfl, vv_sh (fun z => nomatch z), ⟨by rw [lSet]; exact r2.len, fun j t h => ?_, r2.ow, r2.mu⟩, Ag.set (by simp), ?_⟩)
                  · rw [gSet] at h
                    split at h
                    · rename_i e; rw [e.1, r2.at' i _ hg]; exact h
                    · exact r2.at' j t h
                  · simp [ifP, es]
                | none =>
                  have es : sdp kvs (.str y) z = dput kvs (.str y) z := by simp [sdp, hx]
                  refine .inr (.inl ⟨(Md.sh, z), z, setS c2 i (some (m, .dic (dput kvs (.str y) z))), _, rfl, vv_sh (fun z => nomatch z), r2.put hg, Ag.set (by simp), ?_⟩)
                  simp [ifP, es]
            | _ => exact .inl rfl
      | _ => exact .inl rfl
  | lend i a ih =>
    refine ⟨fun ok β env d K r hn => ?_, noAr fun _ _ => rfl⟩
    simp only [okE, Bool.and_eq_true] at ok
    obtain ⟨⟨oa, ho⟩, nx⟩ := ok
    simp only [evE]
    show Sim X _ K env (touchE a) (nxE X.Nx a) (match getS env i with
      | some s => ifP (!(s.1 == .sh || !a.quiet || (touchE a).contains i || (touchE a).any (isOw env))) (cE CC a (setS env i (some (.sh, s.2))) fun r _ => ifP r.pure (K r (wipeE env (touchE a))))
      | none => .stuck) _
    cases hg : getS env i with
    | none => exact Sim.no
    | some s =>
      obtain ⟨m, y⟩ := s
      simp only [r.at' i _ hg]
      cases hm : (m == Sm.sh || !a.quiet || (touchE a).contains i || (touchE a).any (isOw env)) with
      | true => exact .inl (by simp [ifP])
      | false =>
        have hm' : (m == Sm.sh || !a.quiet || (touchE a).contains i || (touchE a).any (isOw d)) = false := by
          rw [owSub r ho]
          simp only [Bool.or_eq_false_iff] at hm ⊢
          exact ⟨hm.1, trivial⟩
        simp only [hm', if_neg (show ¬ (false = true) by decide)]
        rcases ih.ev oa (setS env i (some (.sh, y))) (setS d i (some (.sh, y))) (fun r _ => ifP r.pure (K r (wipeE env (touchE a)))) r.sh (by rw [lSet]; exact hn) with h | ⟨v, x, c1, d1, h1, h2, h3, h4, h5⟩ | ⟨_, _, _, _, h, _⟩
        · exact .inl h
        · rw [h1]
          cases hp : x.pure with
          | false => exact .inl (h5.trans (by show ifP x.pure _ = _; rw [hp]; rfl))
          | true =>
            have hld : LD x = false := by cases x <;> first | rfl | cases hp
            rw [h2.1.sh hld]
            simp only [R.bind_ok, hp, if_true]
            refine .inr (.inl ⟨(.sh, x), x, wipeE env (touchE a), wipeE d (touchE a), rfl, vv_sh (fun z => nomatch z), ⟨by rw [lWipe, lWipe]; exact r.len, fun j t h => ?_, fun j h => ?_, fun j h => ?_⟩, ⟨lWipe _, fun j hj => by rw [gWipe, if_neg hj]⟩, ?_⟩)
            · rw [gWipe] at h ⊢
              split at h
              · cases h
              · rename_i n; rw [if_neg n]; exact r.at' j t h
            · refine r.ow j ?_
              by_cases hv : j ∈ touchE a
              · rw [isOw_no' (show getS (wipeE d (touchE a)) j = none by rw [gWipe, if_pos hv])] at h; cases h
              · unfold isOw at h ⊢
                rw [gWipe, if_neg hv] at h; exact h
            · refine r.mu j ?_
              by_cases hv : j ∈ touchE a
              · rw [isMu_no (show getS (wipeE d (touchE a)) j = none by rw [gWipe, if_pos hv])] at h; cases h
              · unfold isMu at h ⊢
                rw [gWipe, if_neg hv] at h; exact h
            · exact h5.trans (by show ifP x.pure _ = _; rw [hp]; rfl)
        · rw [nx] at h; cases h
  | fld x a ih =>
    refine ⟨fun ok β env d K r hn => ?_, noAr fun _ _ => rfl⟩
    simp only [evE]
    refine Sim.bind0 (ih.ev ok env d _ r hn) fun v y c1 d1 hv r1 g1 => ?_
    cases y with
    | exc c z =>
      rw [hv.1.sh rfl]
      show Sim X _ K c1 _ _ (ifP (fieldOf c == some x) (K z c1)) _
      cases hf : (fieldOf c == some x) with
      | false => exact .inl rfl
      | true =>
        simp only [hf, if_true]
        exact .inr (.inl ⟨_, z, c1, d1, rfl, vv_sh (fun z => nomatch z), r1, Ag.rfl', rfl⟩)
    | _ => exact .inl rfl
  | isC cs t a ih =>
    refine ⟨fun ok β env d K r hn => ?_, noAr fun _ _ => rfl⟩
    simp only [okE, Bool.and_eq_true] at ok
    cases a with
    | var i =>
      show Sim X _ K env [] true (match getS env i with | some s => (match s.1 with | .sh => K (.bl (cs.any fun c => isCls c s.2)) env | _ => .stuck) | none => .stuck) _
      cases hg : getS env i with
      | none => exact Sim.no
      | some s =>
        obtain ⟨m, x⟩ := s
        cases m with
        | sh =>
          simp only [evE, r.at' i _ hg, R.bind_ok]
          exact .inr (.inl ⟨_, _, env, d, rfl, vv_sh (fun z => nomatch z), r, Ag.rfl', rfl⟩)
        | _ => exact Sim.no
    | _ => exact absurd ok.2 (by simp [isVarE])
  | mkf c x a ih =>
    refine ⟨fun ok β env d K r hn => ?_, noAr fun _ _ => rfl⟩
    simp only [evE]
    refine Sim.bind0 (ih.ev ok env d _ r hn) fun v y c1 d1 hv r1 g1 => ?_
    show Sim X _ K c1 _ _ (ifP (fieldOf c == some x) (K y c1)) _
    simp only [hv.1.low]
    cases hf : (fieldOf c == some x) with
    | false => exact .inl rfl
    | true => exact .inr (.inl ⟨_, y, c1, d1, rfl, vv_sh (fun z => nomatch z), r1, Ag.rfl', rfl⟩)
  | mkIs c z b =>
    refine ⟨fun _ β env d K r _ => ?_, noAr fun _ _ => rfl⟩
    simp only [evE]
    exact .inr (.inl ⟨_, _, env, d, rfl, vv_sh (fun z => nomatch z), r, Ag.rfl', rfl⟩)
end
end En
end

section
set_option Elab.async false
set_option linter.all false
set_option maxRecDepth 100000
set_option maxHeartbeats 4000000
namespace En
open PySem

/-! ### what is looked at ahead, statements -/
def nxS (Nx : List Str) : S → Bool
  | .skip | .retN | .never | .hnil | .clear _ | .frz _ => true
  | .seq s t => nxS Nx s && nxS Nx t
  | .asg _ _ e | .asgM _ e | .asgT _ e | .aug _ e | .app _ e | .ex e | .ret e => nxE Nx e
  | .asgP _ _ a b => nxE Nx a && nxE Nx b
  | .setI _ k e => nxE Nx e && nxE Nx k
  | .forC .. => true
  | .forD .. => true
  | .raise _ _ => false
  | .ite c s t | .iteJ _ c s t => nxE Nx c && (nxS Nx s && nxS Nx t)
  | .for _ _ _ a b s => nxE Nx a && nxE Nx b && nxS Nx s
  | .wh _ _ c s => nxE Nx c && nxS Nx s
  | .try _ s h => nxS Nx s && nxS Nx h
  | .hcons _ _ s r => nxS Nx s && nxS Nx r
def frS (Fr : List Str) : S → Bool
  | .ret e => frE Fr e
  | .seq s t | .ite _ s t | .iteJ _ _ s t | .try _ s t | .hcons _ _ s t => frS Fr s && frS Fr t
  | .for _ _ _ _ _ s | .wh _ _ _ s | .forD _ _ _ _ s => frS Fr s
  | _ => true
def ltL (xs : List Nat) (n : Nat) : Bool := xs.all fun i => decide (i < n)
def okS (X : Kx) : S → Bool
  | .skip | .retN | .never | .hnil | .clear _ | .frz _ => true
  | .seq s t => okS X s && okS X t
  | .asg i ow e => okE X e && !X.Mu.contains i && decide (i < X.n) && (!ow || (X.Ow.contains i && frE X.Fr e))
  | .asgM i e => okE X e && !X.Mu.contains i && decide (i < X.n) && X.Ow.contains i && frE X.Fr e
  | .asgT is e => okE X e && outL is X.Mu && ltL is X.n
  | .asgP i j a b => okE X a && okE X b && outL [i, j] X.Mu && ltL [i, j] X.n && !(i == j)
  | .aug i e => okE X e && !(touchE e).contains i && nxE X.Nx e
  | .app i e => okE X e && !(touchE e).contains i && nxE X.Nx e
  | .setI i k e => okE X e && okE X k && !(touchE k).contains i && nxE X.Nx k
  | .forC _ j c _ => okE X c && nxE X.Nx c && outL (touchE c) X.Ow && !X.Ow.contains j
  | .forD vs _ tg _ s => okS X s && nxS X.Nx s && inL vs (tgL tg ++ touchS s) && outL (tgL tg) X.Mu && ltL (tgL tg) X.n
  | .ex e | .ret e | .raise _ e => okE X e
  | .ite c s t => okE X c && (okS X s && okS X t)
  | .iteJ vs c s t => okE X c && (okS X s && okS X t) && inL vs (touchS s ++ touchS t)
  | .for vs tg k a b s => okE X a && okE X b && (nixB b == !k.two) && okS X s && inL vs (tgL tg ++ touchS s) && outL (tgL tg) X.Mu && ltL (tgL tg) X.n
  | .wh vs _ c s => okE X c && okS X s && inL vs (touchE c ++ touchS s)
  | .try vs s h => okS X s && okS X h && inL vs (touchS s ++ touchS h)
  | .hcons _ nm s r => okS X s && okS X r && (match nm with | some i => !X.Ow.contains i && decide (i < X.n) && nxS X.Nx s | none => true)

/-! ### what a run of both says -/
def RS.seq (r : RS) (f : Env → RS) : RS := match r with
  | .nx e => f e
  | r => r
def SimS {β : Type} (X : Kx) (fr : Bool) (Kn : Env → P β) (Kr : D → Env → P β) (env : Env) (t : List Nat) (nx : Bool) (p : P β) (r : RS) : Prop :=
  p = .stuck ∨ (∃ c' d', r = .nx d' ∧ Rl X.Ow X.Mu c' d' ∧ Ag t env c' ∧ p = Kn c') ∨
  (∃ v x c' d', r = .rt v d' ∧ lowV v x ∧ (fr = true → LD x = true → v.1 = .fr) ∧ Rl X.Ow X.Mu c' d' ∧ Ag t env c' ∧ p = Kr x c') ∨
  (∃ x d', r = .exc x d' ∧ Rl X.Ow X.Mu (wipeE env t) d' ∧ nx = false ∧ p = .exc x)
section
variable {X : Kx} {β : Type} {α α' : Type} {V : α → α' → Prop} {Kn : Env → P β} {Kr : D → Env → P β} {env c' d' : Env} {t u : List Nat} {p : P β} {fr nx nb : Bool}
theorem SimS.no {r : RS} : SimS X fr Kn Kr env t nx (.stuck : P β) r := .inl rfl
theorem SimS.nxt (r : Rl X.Ow X.Mu c' d') (g : Ag t env c') (h : p = Kn c') : SimS X fr Kn Kr env t nx p (.nx d') := .inr (.inl ⟨c', d', rfl, r, g, h⟩)
theorem SimS.mono {r : RS} {fr2 : Bool} (h : SimS X fr Kn Kr env t nx p r) (k : ∀ i, i ∈ t → i ∈ u) (kn : nb = true → nx = true) (kf : fr2 = true → fr = true) : SimS X fr2 Kn Kr env u nb p r := by
  rcases h with h | ⟨c', d', h1, h2, h3, h4⟩ | ⟨v, x, c', d', h1, h2, h3, h4, h5, h6⟩ | ⟨x, d', h1, h2, h4, h3⟩
  · exact .inl h
  · exact .inr (.inl ⟨c', d', h1, h2, h3.mono k, h4⟩)
  · exact .inr (.inr (.inl ⟨v, x, c', d', h1, h2, fun z => h3 (kf z), h4, h5.mono k, h6⟩))
  · refine .inr (.inr (.inr ⟨x, d', h1, h2.wmono k, ?_, h3⟩))
    cases nb with
    | false => rfl
    | true => rw [kn rfl] at h4; cases h4
theorem Sim.toS {K1 : α' → Env → P β} {f : α → Env → RS} {r : R α} (h : Sim X V K1 env t nx p r)
    (k : ∀ a a' c' d', V a a' → Rl X.Ow X.Mu c' d' → Ag t env c' → SimS X fr Kn Kr c' u nb (K1 a' c') (f a d')) : SimS X fr Kn Kr env (t ++ u) (nx && nb) p (r.toS f) := by
  rcases h with h | ⟨a, a', c', d', h1, h2, h3, h4, h5⟩ | ⟨x, d', h1, h2, h4, h3⟩
  · exact .inl h
  · rw [h1, h5]
    show SimS X fr Kn Kr env (t ++ u) _ (K1 a' c') (f a d')
    rcases k a a' c' d' h2 h3 h4 with h | ⟨c2, d2, k1, k2, k3, k4⟩ | ⟨v, x, c2, d2, k1, k2, k3, k4, k5, k6⟩ | ⟨x, d2, k1, k2, k4, k3⟩
    · exact .inl h
    · exact .inr (.inl ⟨c2, d2, k1, k2, h4.app k3, k4⟩)
    · exact .inr (.inr (.inl ⟨v, x, c2, d2, k1, k2, k3, k4, h4.app k5, k6⟩))
    · exact .inr (.inr (.inr ⟨x, d2, k1, k2.wback h4, by rw [k4, Bool.and_false], k3⟩))
  · rw [h1]
    exact .inr (.inr (.inr ⟨x, d', rfl, h2.wmono fun i z => List.mem_append_left _ z, by rw [h4, Bool.false_and], h3⟩))
theorem Sim.toS0 {K1 : α' → Env → P β} {f : α → Env → RS} {r : R α} (h : Sim X V K1 env t nx p r)
    (k : ∀ a a' c' d', V a a' → Rl X.Ow X.Mu c' d' → Ag t env c' → SimS X fr Kn Kr c' [] true (K1 a' c') (f a d')) : SimS X fr Kn Kr env t nx p (r.toS f) := by
  have := Sim.toS h k
  rw [List.append_nil, Bool.and_true] at this
  exact this
theorem SimS.seq {K1 : Env → P β} {f : Env → RS} {r : RS} (h : SimS X fr K1 Kr env t nx p r)
    (k : ∀ c' d', Rl X.Ow X.Mu c' d' → Ag t env c' → SimS X fr Kn Kr c' u nb (K1 c') (f d')) : SimS X fr Kn Kr env (t ++ u) (nx && nb) p (r.seq f) := by
  rcases h with h | ⟨c', d', h1, h3, h4, h5⟩ | ⟨v, x, c', d', h1, h2, h3, h4, h5, h6⟩ | ⟨x, d', h1, h2, h4, h3⟩
  · exact .inl h
  · rw [h1, h5]
    show SimS X fr Kn Kr env (t ++ u) _ (K1 c') (f d')
    rcases k c' d' h3 h4 with h | ⟨c2, d2, k1, k2, k3, k4⟩ | ⟨v, x, c2, d2, k1, k2, k3, k4, k5, k6⟩ | ⟨x, d2, k1, k2, k4, k3⟩
    · exact .inl h
    · exact .inr (.inl ⟨c2, d2, k1, k2, h4.app k3, k4⟩)
    · exact .inr (.inr (.inl ⟨v, x, c2, d2, k1, k2, k3, k4, h4.app k5, k6⟩))
    · exact .inr (.inr (.inr ⟨x, d2, k1, k2.wback h4, by rw [k4, Bool.and_false], k3⟩))
  · rw [h1]
    exact .inr (.inr (.inl ⟨v, x, c', d', rfl, h2, h3, h4, h5.mono fun i z => List.mem_append_left _ z, h6⟩))
  · rw [h1]
    exact .inr (.inr (.inr ⟨x, d', rfl, h2.wmono fun i z => List.mem_append_left _ z, by rw [h4, Bool.false_and], h3⟩))
/-- ways that meet again -/
theorem SimS.join {r : RS} {vs : List Nat} {K2 : Env → P β} (h : SimS X fr (fun e' => optP (getA env e' vs) fun st => K2 (putA env (wipeE env u) vs st)) Kr env t nx p r) (k : ∀ i, i ∈ t → i ∈ u) (kv : inL vs u = true) :
    SimS X fr K2 Kr env u nx p r := by
  rcases h with h | ⟨c', d', h1, h3, h4, h5⟩ | ⟨v, x, c', d', h1, h2, h3, h4, h5, h6⟩ | ⟨x, d', h1, h2, h4, h3⟩
  · exact .inl h
  · cases hst : getA env c' vs with
    | none => exact .inl (h5.trans (by simp [optP, hst]))
    | some st => exact .inr (.inl ⟨_, d', h1, h3.join (h4.mono k) hst, (h4.mono k).join hst (fun _ z => z) (fun i z => mem_inL kv z), h5.trans (by simp [optP, hst])⟩)
  · exact .inr (.inr (.inl ⟨v, x, c', d', h1, h2, h3, h4, h5.mono k, h6⟩))
  · exact .inr (.inr (.inr ⟨x, d', h1, h2.wmono k, h4, h3⟩))
theorem putA_out {env : Env} {i : Nat} : ∀ {vs : List Nat} {st : List D} {e0 : Env}, i ∉ vs → getS (putA env e0 vs st) i = getS e0 i := by
  intro vs
  induction vs with
  | nil => intro st e0 _; rfl
  | cons j js ih =>
    intro st e0 h
    show getS (putA env (setS e0 j _) js st.tail) i = _
    rw [ih (fun z => h (List.mem_cons_of_mem _ z)), gNe (fun z => h (by simp [z]))]
theorem ag_put {env : Env} {t vs : List Nat} {st : List D} (kv : inL vs t = true) : Ag t env (putA env (wipeE env t) vs st) :=
  ⟨by rw [putA_len, lWipe], fun i hi => by rw [putA_out (fun z => hi (mem_inL kv z)), gWipe, if_neg hi]⟩
/-- a round of a loop -/
theorem loop_join {vs t : List Nat} {st st' : List D} {c2 d2 : Env} (r : Rl X.Ow X.Mu c2 d2) (g : Ag t (putA env (wipeE env t) vs st) c2) (kv : inL vs t = true) (h : getA env c2 vs = some st') :
    Rl X.Ow X.Mu (putA env (wipeE env t) vs st') d2 := by
  have g' : Ag t env c2 := ((ag_put kv).app g).mono fun i z => (List.mem_append.mp z).elim id id
  exact r.join g' h
theorem loop_exc {vs t : List Nat} {st : List D} {d2 : Env} {w : List Nat} (r : Rl X.Ow X.Mu (wipeE (putA env (wipeE env t) vs st) w) d2) (kv : inL vs t = true) (hw : ∀ i, i ∈ w → i ∈ t) : Rl X.Ow X.Mu (wipeE env t) d2 :=
  (r.wback (ag_put kv)).wmono fun i z => (List.mem_append.mp z).elim id (hw i)
end
theorem frz_rl {Ow Mu : List Nat} : ∀ {is : List Nat} {c d : Env}, Rl Ow Mu c d → Rl Ow Mu (frzE c is) (frzE d is) := by
  intro is
  induction is with
  | nil => intro c d r; exact r
  | cons i is ih =>
    intro c d r
    unfold frzE
    cases hg : getS c i with
    | some s =>
      rw [r.at' i s hg]
      obtain ⟨m, x⟩ := s
      cases m with
      | ow => exact ih r.sh
      | _ => exact ih r
    | none =>
      show Rl Ow Mu (frzE c is) _
      cases hd : getS d i with
      | none => exact ih r
      | some s =>
        obtain ⟨m, x⟩ := s
        cases m with
        | ow =>
          refine ih ⟨by rw [lSet]; exact r.len, fun j t h => ?_, fun j h => ?_, fun j h => ?_⟩
          · have hj : j ≠ i := fun z => by rw [z, hg] at h; cases h
            rw [gNe hj]; exact r.at' j t h
          · by_cases hj : j = i
            · subst hj; exact r.ow j (by rw [isOw_at hd]; rfl)
            · refine r.ow j ?_
              unfold isOw at h ⊢
              rw [gNe hj] at h; exact h
          · by_cases hj : j = i
            · subst hj; rw [isMu_at (gSelf (gLt hd))] at h; cases h
            · refine r.mu j ?_
              unfold isMu at h ⊢
              rw [gNe hj] at h; exact h
        | _ => exact ih r
theorem frz_ag : ∀ {is : List Nat} {c : Env}, Ag is c (frzE c is) := by
  intro is
  induction is with
  | nil => intro c; exact Ag.rfl'
  | cons i is ih =>
    intro c
    unfold frzE
    split
    · exact ((Ag.set (t := [i]) (by simp)).app ih).mono fun j z => by simpa using z
    · exact ih.mono fun j z => List.mem_cons_of_mem _ z

section
variable {X : Kx} {C : Calls} {CC : CCalls} {β : Type}
theorem owNot {i : Nat} {c d : Env} (r : Rl X.Ow X.Mu c d) (h : X.Ow.contains i = false) : isOw d i = false := by
  cases q : isOw d i with
  | false => rfl
  | true => have := r.ow i q; rw [← List.contains_iff_mem, h] at this; cases this
theorem muNot {i : Nat} {c d : Env} (r : Rl X.Ow X.Mu c d) (h : X.Mu.contains i = false) : isMu d i = false := by
  cases q : isMu d i with
  | false => rfl
  | true => have := r.mu i q; rw [← List.contains_iff_mem, h] at this; cases this
theorem Rl.own {i : Nat} {x : D} {c d : Env} (r : Rl X.Ow X.Mu c d) (h : X.Ow.contains i = true) : Rl X.Ow X.Mu (setS c i (some (.ow, x))) (setS d i (some (.ow, x))) :=
  r.set (fun m z e k => List.contains_iff_mem.mp h) (fun z e => by cases e)

/-! ### loops -/
theorem sim_loop {F : List D → D → (List D → P β) → P β} {f : Env → RS} {tg : Tg} {fr : Bool} {nx : Bool} {vs t ts : List Nat} {env : Env} {Kn : Env → P β} {Kr : D → Env → P β} {body : Env → (Env → P β) → P β}
    (ht : t = tgL tg ++ ts) (kv : inL vs t = true) (hmu : outL (tgL tg) X.Mu = true) (hlt : ltL (tgL tg) X.n = true) (hn : env.length = X.n)
    (hF : ∀ st x k, F st x k = bnd tg x (putA env (wipeE env t) vs st) fun e1 => body e1 fun e2 => optP (getA env e2 vs) k)
    (hs : ∀ (env d : Env) (K : Env → P β), Rl X.Ow X.Mu env d → env.length = X.n → SimS X fr K Kr env ts nx (body env K) (f d)) :
    ∀ (xs : List D) (st : List D) (dd : Env), Rl X.Ow X.Mu (putA env (wipeE env t) vs st) dd →
      SimS X fr Kn Kr env t nx (loopC F xs st fun st => Kn (putA env (wipeE env t) vs st)) (forL tg f xs dd) := by
  intro xs
  induction xs with
  | nil => intro st dd r; exact SimS.nxt r (ag_put kv) rfl
  | cons x xs ih =>
    intro st dd r
    have hl0 : (putA env (wipeE env t) vs st).length = X.n := by rw [putA_len, lWipe]; exact hn
    show SimS X fr Kn Kr env t nx (F st x fun st' => loopC F xs st' fun st => Kn (putA env (wipeE env t) vs st)) (match bindTg tg x dd with
      | none => .stuck
      | some env1 => match f env1 with
        | .nx env2 => forL tg f xs env2
        | r => r)
    rw [hF]
    rcases bnd_sim (x := x) (K := fun e1 => body e1 fun e2 => optP (getA env e2 vs) fun st' => loopC F xs st' fun st => Kn (putA env (wipeE env t) vs st)) r hmu (by rw [hl0]; exact hlt) with h | ⟨c1, d1, h1, r1, g1, h4⟩
    · exact .inl h
    · refine Eq.mpr (congrArg (fun z => SimS X fr Kn Kr env _ nx z _) h4) ?_
      rw [h1]
      simp only
      rcases hs c1 d1 (fun e2 => optP (getA env e2 vs) fun st' => loopC F xs st' fun st => Kn (putA env (wipeE env t) vs st)) r1 (by rw [g1.len]; exact hl0) with h | ⟨c2, d2, k1, k2, k3, k4⟩ | ⟨v, y, c2, d2, k1, k2, k3, k4, k5, k6⟩ | ⟨y, d2, k1, k2, k3, k4⟩
      · exact .inl h
      · rw [k4, k1]
        have gg : Ag t (putA env (wipeE env t) vs st) c2 := by rw [ht] at g1 ⊢; exact g1.app k3
        cases hst : getA env c2 vs with
        | none => exact .inl (by simp [optP, hst])
        | some st' =>
          simp only [optP, hst]
          exact ih st' d2 (loop_join k2 gg kv hst)
      · rw [k6, k1]
        have gg : Ag t (putA env (wipeE env t) vs st) c2 := by rw [ht] at g1 ⊢; exact g1.app k5
        exact .inr (.inr (.inl ⟨v, y, c2, d2, rfl, k2, k3, k4, ((ag_put kv).app gg).mono (fun i z => (List.mem_append.mp z).elim id id), rfl⟩))
      · rw [k4, k1]
        refine .inr (.inr (.inr ⟨y, d2, rfl, loop_exc (k2.wback g1) kv (fun i z => by rw [ht]; exact z), k3, rfl⟩))
theorem sim_wh {F : List D → (List D → P β) → (List D → P β) → P β} {c : E} {f : Env → RS} {fr : Bool} {nx : Bool} {vs t ts : List Nat} {env : Env} {Kn : Env → P β} {Kr : D → Env → P β} {body : Env → (Env → P β) → P β}
    (ht : t = touchE c ++ ts) (kv : inL vs t = true) (hn : env.length = X.n)
    (hF : ∀ st ag dn, F st ag dn = cE CC c (putA env (wipeE env t) vs st) fun d e1 => asB d fun b => bif b then body e1 (fun e2 => optP (getA env e2 vs) ag) else optP (getA env e1 vs) dn)
    (hc : ∀ (env d : Env) (K : D → Env → P β), Rl X.Ow X.Mu env d → env.length = X.n → Sim X (Vv X c) K env (touchE c) (nxE X.Nx c) (cE CC c env K) (evE C c d))
    (hs : ∀ (env d : Env) (K : Env → P β), Rl X.Ow X.Mu env d → env.length = X.n → SimS X fr K Kr env ts nx (body env K) (f d)) :
    ∀ (n : Nat) (st : List D) (dd : Env), Rl X.Ow X.Mu (putA env (wipeE env t) vs st) dd →
      SimS X fr Kn Kr env t (nxE X.Nx c && nx) (whC F n st fun st => Kn (putA env (wipeE env t) vs st)) (whL (evE C c) f n dd) := by
  intro n
  induction n with
  | zero => intro st dd r; exact .inl rfl
  | succ n ih =>
    intro st dd r
    have hl0 : (putA env (wipeE env t) vs st).length = X.n := by rw [putA_len, lWipe]; exact hn
    show SimS X fr Kn Kr env t _ (F st (fun st' => whC F n st' fun st => Kn (putA env (wipeE env t) vs st)) (fun st => Kn (putA env (wipeE env t) vs st))) _
    rw [hF]
    unfold whL
    rcases hc _ dd (fun d e1 => asB d fun b => bif b then body e1 (fun e2 => optP (getA env e2 vs) fun st' => whC F n st' fun st => Kn (putA env (wipeE env t) vs st)) else optP (getA env e1 vs) fun st => Kn (putA env (wipeE env t) vs st)) r hl0 with h | ⟨v, x, c1, d1, h1, h2, r1, g1, h5⟩ | ⟨x, d1, h1, h2, h3, h4⟩
    · exact .inl h
    · rw [h5, h1]
      cases x with
      | bl b =>
        rw [h2.1.sh rfl]
        simp only [asB_bl]
        cases b with
        | true =>
          simp only [cond_true]
          rcases hs c1 d1 (fun e2 => optP (getA env e2 vs) fun st' => whC F n st' fun st => Kn (putA env (wipeE env t) vs st)) r1 (by rw [g1.len]; exact hl0) with h | ⟨c2, d2, k1, k2, k3, k4⟩ | ⟨v, y, c2, d2, k1, k2, k3, k4, k5, k6⟩ | ⟨y, d2, k1, k2, k3, k4⟩
          · exact .inl h
          · rw [k4, k1]
            have gg : Ag t (putA env (wipeE env t) vs st) c2 := by rw [ht] at g1 ⊢; exact g1.app k3
            cases hst : getA env c2 vs with
            | none => exact .inl (by simp [optP, hst])
            | some st' =>
              simp only [optP, hst]
              exact ih st' d2 (loop_join k2 gg kv hst)
          · rw [k6, k1]
            have gg : Ag t (putA env (wipeE env t) vs st) c2 := by rw [ht] at g1 ⊢; exact g1.app k5
            exact .inr (.inr (.inl ⟨v, y, c2, d2, rfl, k2, k3, k4, ((ag_put kv).app gg).mono (fun i z => (List.mem_append.mp z).elim id id), rfl⟩))
          · rw [k4, k1]
            refine .inr (.inr (.inr ⟨y, d2, rfl, loop_exc (k2.wback g1) kv (fun i z => by rw [ht]; exact z), by rw [k3, Bool.and_false], rfl⟩))
        | false =>
          simp only [cond_false]
          have gg : Ag t (putA env (wipeE env t) vs st) c1 := g1.mono fun i z => by rw [ht]; exact List.mem_append_left _ z
          cases hst : getA env c1 vs with
          | none => exact .inl (by simp [optP, hst])
          | some st' =>
            simp only [optP, hst]
            exact SimS.nxt (loop_join r1 gg kv hst) (ag_put kv) rfl
      | _ => exact .inl rfl
    · rw [h4, h1]
      refine .inr (.inr (.inr ⟨x, d1, rfl, loop_exc h2 kv (fun i z => by rw [ht]; exact List.mem_append_left _ z), by rw [h3, Bool.false_and], rfl⟩))
theorem sim_forC {c : E} {b : D} {j : Nat} {fr : Bool} {env d : Env} {Kn : Env → P β} {Kr : D → Env → P β} (hb : b.pure = true) (hn : env.length = X.n) (r : Rl X.Ow X.Mu env d) (nc : nxE X.Nx c = true)
    (hc : ∀ (env d : Env) (K : D → Env → P β), Rl X.Ow X.Mu env d → env.length = X.n → Sim X (Vv X c) K env (touchE c) (nxE X.Nx c) (cE CC c env K) (evE C c d)) :
    ∀ (xs st : List D), SimS X fr Kn Kr env (j :: touchE c) true (loopC (fun st x k => cE CC c (setS env j (some (.sh, x))) fun d _ => asB d fun t => bif t then Kr b (setS (wipeE env (touchE c)) j none) else k st) xs st fun _ => Kn (setS (wipeE env (touchE c)) j none))
      (forCL (fun x => evE C c (setS d j (some (.sh, x)))) b (wipeE d (touchE c)) j xs) := by
  have rw' : Rl X.Ow X.Mu (setS (wipeE env (touchE c)) j none) (setS (wipeE d (touchE c)) j none) := by
    refine Rl.no ⟨by rw [lWipe, lWipe]; exact r.len, fun i s h => ?_, fun i h => ?_, fun i h => ?_⟩
    · rw [gWipe] at h ⊢
      split at h
      · cases h
      · rename_i n; rw [if_neg n]; exact r.at' i s h
    · refine r.ow i ?_
      by_cases hv : i ∈ touchE c
      · rw [isOw_no' (show getS (wipeE d (touchE c)) i = none by rw [gWipe, if_pos hv])] at h; cases h
      · unfold isOw at h ⊢
        rw [gWipe, if_neg hv] at h; exact h
    · refine r.mu i ?_
      by_cases hv : i ∈ touchE c
      · rw [isMu_no (show getS (wipeE d (touchE c)) i = none by rw [gWipe, if_pos hv])] at h; cases h
      · unfold isMu at h ⊢
        rw [gWipe, if_neg hv] at h; exact h
  have ag : Ag (j :: touchE c) env (setS (wipeE env (touchE c)) j none) := ⟨by rw [lSet, lWipe], fun i hi => by
    rw [gNe (fun z => hi (by simp [z])), gWipe, if_neg (fun z => hi (List.mem_cons_of_mem _ z))]⟩
  intro xs
  induction xs with
  | nil => intro st; exact SimS.nxt rw' ag rfl
  | cons x xs ih =>
    intro st
    unfold loopC forCL
    rcases hc (setS env j (some (.sh, x))) (setS d j (some (.sh, x))) (fun d _ => asB d fun t => bif t then Kr b (setS (wipeE env (touchE c)) j none) else loopC (fun st x k => cE CC c (setS env j (some (.sh, x))) fun d _ => asB d fun t => bif t then Kr b (setS (wipeE env (touchE c)) j none) else k st) xs st fun _ => Kn (setS (wipeE env (touchE c)) j none)) r.sh (by rw [lSet]; exact hn) with h | ⟨v, y, c1, d1, h1, h2, r1, g1, h5⟩ | ⟨_, _, _, _, h, _⟩
    · exact .inl h
    · rw [h5, h1]
      cases y with
      | bl t =>
        rw [h2.1.sh rfl]
        simp only [asB_bl]
        cases t with
        | true =>
          have hld : LD b = false := by cases b <;> first | rfl | cases hb
          exact .inr (.inr (.inl ⟨(.sh, b), b, _, _, rfl, lowV.one b, (fun _ z => by rw [hld] at z; cases z), rw', ag, rfl⟩))
        | false => exact ih st
      | _ => exact .inl rfl
    · rw [nc] at h; cases h
end
end En
end

section
set_option Elab.async false
set_option linter.all false
set_option maxRecDepth 100000
set_option maxHeartbeats 4000000
namespace En
open PySem
section
variable {X : Kx} {C : Calls} {CC : CCalls}
structure SimT (X : Kx) (C : Calls) (CC : CCalls) (s : S) : Prop where
  ev : okS X s = true → ∀ {β : Type} (env d : Env) (Kn : Env → P β) (Kr : D → Env → P β), Rl X.Ow X.Mu env d → env.length = X.n → SimS X (frS X.Fr s) Kn Kr env (touchS s) (nxS X.Nx s) (cS CC s env Kn Kr) (evS C s d)
  hd : okS X s = true → ∀ {β : Type} (x : D) (env d : Env) (Kn : Env → P β), Rl X.Ow X.Mu env d → env.length = X.n → SimS X (frS X.Fr s) Kn (fun _ _ => .stuck) env (touchS s) false (cH CC s x env Kn) (evH C s x d)
theorem noHd {s : S} (h : ∀ {β : Type} (x : D) (env : Env) (Kn : Env → P β), cH CC s x env Kn = .stuck) : okS X s = true → ∀ {β : Type} (x : D) (env d : Env) (Kn : Env → P β), Rl X.Ow X.Mu env d → env.length = X.n → SimS X (frS X.Fr s) Kn (fun _ _ => .stuck) env (touchS s) false (cH CC s x env Kn) (evH C s x d) :=
  fun _ _ x env d Kn _ _ => .inl (h x env Kn)
theorem ctF {xs : List Nat} {i : Nat} (h : xs.contains i = false) : i ∉ xs := fun z => by rw [List.contains_iff_mem.mpr z] at h; cases h
theorem simS (hC : HC X C CC) (s : S) : SimT X C CC s := by
  have hE := fun e => (simE hC e).ev
  induction s with
  | skip =>
    refine ⟨fun _ β env d Kn Kr r _ => ?_, noHd fun _ _ _ => rfl⟩
    simp only [evS]
    exact SimS.nxt r Ag.rfl' rfl
  | seq s t ihs iht =>
    refine ⟨fun ok β env d Kn Kr r hn => ?_, noHd fun _ _ _ => rfl⟩
    simp only [okS, Bool.and_eq_true] at ok
    have e : evS C (.seq s t) d = (evS C s d).seq (evS C t) := by rw [evS]; unfold RS.seq; cases evS C s d <;> rfl
    rw [e]
    refine SimS.seq ((ihs.ev ok.1 env d _ Kr r hn).mono (fun _ z => z) (fun z => z) (fun z => by simp only [frS, Bool.and_eq_true] at z; exact z.1)) fun c' d' r' g => ?_
    exact (iht.ev ok.2 c' d' Kn Kr r' (by rw [g.len]; exact hn)).mono (fun _ z => z) (fun z => z) (fun z => by simp only [frS, Bool.and_eq_true] at z; exact z.2)
  | asg i ow e =>
    refine ⟨fun ok β env d Kn Kr r hn => ?_, noHd fun _ _ _ => rfl⟩
    simp only [okS, Bool.and_eq_true, Bool.not_eq_true', decide_eq_true_eq] at ok
    obtain ⟨⟨⟨oe, hm⟩, hl⟩, how⟩ := ok
    simp only [evS]
    refine (Sim.toS (u := [i]) (nb := true) (hE e oe env d _ r hn) fun v x c1 d1 hv r1 g1 => ?_).mono (fun _ z => z) (fun z => by simpa [nxS] using z) (fun z => z)
    have hl1 : ¬ d1.length ≤ i := by rw [← r1.len, g1.len, hn]; omega
    simp only [muNot r1 hm, if_neg (show ¬ (false = true) by decide), if_neg hl1]
    cases ow with
    | true =>
      simp only [Bool.not_true, Bool.false_or, Bool.and_eq_true] at how
      have go : LD x = true → v = (.fr, x) := fun hld => by
        have := hv.2 how.2 hld
        obtain ⟨m, y⟩ := v
        simp only at this
        subst this
        have hy : y = x := hv.1.1
        subst hy
        rfl
      cases x with
      | lst ds => rw [go rfl]; exact SimS.nxt (r1.own how.1) (Ag.set (by simp)) rfl
      | dic ds => rw [go rfl]; exact SimS.nxt (r1.own how.1) (Ag.set (by simp)) rfl
      | _ => exact .inl rfl
    | false =>
      simp only [hv.1.low]
      exact SimS.nxt r1.sh (Ag.set (by simp)) rfl
  | asgM i e =>
    refine ⟨fun ok β env d Kn Kr r hn => ?_, noHd fun _ _ _ => rfl⟩
    simp only [okS, Bool.and_eq_true, Bool.not_eq_true', decide_eq_true_eq] at ok
    obtain ⟨⟨⟨⟨oe, hm⟩, hl⟩, hco⟩, hfr⟩ := ok
    simp only [evS]
    refine (Sim.toS (u := [i]) (nb := true) (hE e oe env d _ r hn) fun v x c1 d1 hv r1 g1 => ?_).mono (fun _ z => z) (fun z => by simpa [nxS] using z) (fun z => z)
    have hl1 : ¬ d1.length ≤ i := by rw [← r1.len, g1.len, hn]; omega
    simp only [muNot r1 hm, if_neg (show ¬ (false = true) by decide), if_neg hl1]
    have go : LD x = true → v = (.fr, x) := fun hld => by
      have := hv.2 hfr hld
      obtain ⟨m, y⟩ := v
      simp only at this
      subst this
      have hy : y = x := hv.1.1
      subst hy
      rfl
    cases x with
    | lst ds => rw [go rfl]; exact SimS.nxt (r1.own hco) (Ag.set (by simp)) rfl
    | dic ds => rw [go rfl]; exact SimS.nxt (r1.own hco) (Ag.set (by simp)) rfl
    | tup ds =>
      rw [hv.1.sh rfl]
      show SimS X _ Kn Kr c1 [i] true (ifP (D.tup ds).pure _) (if (D.tup ds).pure = true then _ else _)
      cases hp : (D.tup ds).pure with
      | false => exact .inl rfl
      | true => rw [if_pos rfl]; exact SimS.nxt r1.sh (Ag.set (by simp)) rfl
    | exc c z => exact .inl rfl
    | _ => rw [hv.1.sh rfl]; exact SimS.nxt r1.sh (Ag.set (by simp)) rfl
  | asgT is e =>
    refine ⟨fun ok β env d Kn Kr r hn => ?_, noHd fun _ _ _ => rfl⟩
    simp only [okS, Bool.and_eq_true] at ok
    obtain ⟨⟨oe, hm⟩, hl⟩ := ok
    simp only [evS]
    refine (Sim.toS (u := is) (nb := true) (hE e oe env d _ r hn) fun v x c1 d1 hv r1 g1 => ?_).mono (fun _ z => z) (fun z => by simpa [nxS] using z) (fun z => z)
    simp only [hv.1.low]
    have go : ∀ ds, SimS X (frS X.Fr (.asgT is e)) Kn Kr c1 is true (bndL is ds c1 Kn) (ofE (bindL is ds d1)) := fun ds => by
      rcases bndL_sim (K := Kn) (ds := ds) r1 hm (by rw [g1.len, hn]; exact hl) with h | ⟨c', d', h1, h2, h3, h4⟩
      · exact .inl h
      · rw [h1, h4]; exact SimS.nxt h2 h3 rfl
    cases x with
    | tup ds => exact go ds
    | lst ds => exact go ds
    | _ => exact .inl rfl
  | asgP i j a b =>
    refine ⟨fun ok β env d Kn Kr r hn => ?_, noHd fun _ _ _ => rfl⟩
    simp only [okS, Bool.and_eq_true, Bool.not_eq_true'] at ok
    obtain ⟨⟨⟨⟨oa, ob⟩, hm⟩, hl⟩, hij⟩ := ok
    simp only [evS]
    refine Sim.toS (u := touchE b ++ [i, j]) (nb := nxE X.Nx b) (hE a oa env d _ r hn) fun v x c1 d1 hv r1 g1 => ?_
    refine (Sim.toS (u := [i, j]) (nb := true) (hE b ob c1 d1 _ r1 (by rw [g1.len]; exact hn)) fun w y c2 d2 hw r2 g2 => ?_).mono (fun _ z => z) (fun z => by simpa using z) (fun z => z)
    simp only [hv.1.low, hw.1.low, hij, if_neg (show ¬ (false = true) by decide)]
    rcases bndL_sim (K := Kn) (is := [i, j]) (ds := [x, y]) r2 hm (by rw [g2.len, g1.len, hn]; exact hl) with h | ⟨c', d', h1, h2, h3, h4⟩
    · exact .inl h
    · rw [h1]
      exact SimS.nxt h2 h3 h4
  | aug i e =>
    refine ⟨fun ok β env d Kn Kr r hn => ?_, noHd fun _ _ _ => rfl⟩
    simp only [okS, Bool.and_eq_true, Bool.not_eq_true'] at ok
    obtain ⟨⟨oe, hi⟩, nx⟩ := ok
    have hi' := ctF hi
    simp only [evS]
    have sb := sim_bor (K := fun y env => (match getS env i with
      | some s => augP s.1 s.2 y fun z => Kn (setS env i (some (s.1, z)))
      | none => .stuck)) r fun K => hE e oe env d K r hn
    cases hg : getS env i with
    | none =>
      rcases sb with h | ⟨v, x, c1, d1, h1, h2, h3, h4, h5⟩ | ⟨_, _, _, _, h, _⟩
      · exact .inl h
      · refine .inl (h5.trans ?_)
        simp only [h4.at' i hi', hg]
      · rw [nx] at h; cases h
    | some s =>
      have hd := r.at' i _ hg
      rw [show (getS d i).isNone = false by rw [hd]; rfl, if_neg (by decide)]
      refine (Sim.toS (u := [i]) (nb := true) sb fun v x c1 d1 hv r1 g1 => ?_).mono (fun _ z => z) (fun z => by simpa [nxS] using z) (fun z => z)
      have hg1 : getS c1 i = some s := by rw [g1.at' i hi']; exact hg
      simp only [hg1, r1.at' i _ hg1, hv.1]
      obtain ⟨m, y⟩ := s
      cases m with
      | sh =>
        cases y <;> cases x <;> first
          | exact .inl rfl
          | exact SimS.nxt (r1.put hg1) (Ag.set (by simp)) rfl
      | _ =>
        cases y <;> cases x <;> first
          | exact .inl rfl
          | (rename_i p q
             show SimS X _ Kn Kr c1 [i] true (ifP (szOk (p.length + q.length)) _) (if _ then RS.stuck else if szOk (p.length + q.length) = true then _ else RS.stuck)
             rw [if_neg (by decide)]
             cases hz : szOk (p.length + q.length) with
             | false => exact .inl rfl
             | true => exact SimS.nxt (r1.put hg1) (Ag.set (by simp)) rfl)
  | setI i k e =>
    refine ⟨fun ok β env d Kn Kr r hn => ?_, noHd fun _ _ _ => rfl⟩
    simp only [okS, Bool.and_eq_true, Bool.not_eq_true'] at ok
    obtain ⟨⟨⟨oe, okk⟩, hi⟩, nx⟩ := ok
    have hi' := ctF hi
    simp only [evS]
    refine Sim.toS (u := touchE k ++ [i]) (nb := nxE X.Nx k) (hE e oe env d _ r hn) fun v x c1 d1 hv r1 g1 => ?_
    have sk := hE k okk c1 d1 (fun w env => (match getS env i with
      | some s => ifP (!(s.1 == .sh)) (setP s.2 w x fun z => Kn (setS env i (some (s.1, z))))
      | none => .stuck)) r1 (by rw [g1.len]; exact hn)
    cases ho : isOw d1 i with
    | false =>
      rw [Bool.not_false, if_pos rfl]
      rcases sk with h | ⟨w, y, c2, d2, h1, h2, h3, h4, h5⟩ | ⟨_, _, _, _, h, _⟩
      · exact .inl h
      · refine .inl (h5.trans ?_)
        simp only [h4.at' i hi']
        cases hg : getS c1 i with
        | none => rfl
        | some s =>
          have := r1.at' i _ hg
          rw [isOw_at this] at ho
          simp only [ho, ifP]
      · rw [nx] at h; cases h
    | true =>
      rw [Bool.not_true, if_neg (by decide)]
      refine (Sim.toS (u := [i]) (nb := true) sk fun w y c2 d2 hw r2 g2 => ?_).mono (fun _ z => z) (fun z => by simpa using z) (fun z => z)
      simp only [hv.1.low]
      cases hg : getS c2 i with
      | none => exact .inl rfl
      | some s =>
        obtain ⟨m, z⟩ := s
        simp only [r2.at' i _ hg]
        cases hm : (m == Sm.sh) with
        | true => exact .inl rfl
        | false =>
          cases z with
          | lst ds =>
            cases y with
            | int j =>
              rw [hw.1.sh rfl]
              simp only [hm, if_neg (show ¬ (false = true) by decide)]
              show SimS X _ Kn Kr c2 [i] true (optP (L2.ixN ds.length j) fun n => Kn (setS c2 i (some (m, .lst (ds.set n x))))) _
              cases hx : L2.ixN ds.length j with
              | none => exact .inl rfl
              | some n => exact SimS.nxt (r2.put hg) (Ag.set (by simp)) rfl
            | _ => exact .inl rfl
          | dic kvs =>
            show SimS X _ Kn Kr c2 [i] true (ifP (keyOk y && keysOk kvs y && valOk y x && szOk (kvs.length + 1)) (Kn (setS c2 i (some (m, .dic (dput kvs y x)))))) _
            cases hz : (keyOk y && keysOk kvs y && valOk y x && szOk (kvs.length + 1)) with
            | false => exact .inl rfl
            | true =>
              simp only [Bool.and_eq_true] at hz
              cases y with
              | str q =>
                rw [hw.1.sh rfl]
                show SimS X _ Kn Kr c2 [i] true _ (if (m == Sm.sh || !(keyOk (.str q) && keysOk kvs (.str q) && valOk (.str q) x)) = true then RS.stuck else if szOk (kvs.length + 1) = true then RS.nx (setS d2 i (some (m, .dic (dput kvs (.str q) x)))) else RS.stuck)
                rw [hm, hz.1.1.1, hz.1.1.2, hz.1.2, hz.2]
                exact SimS.nxt (r2.put hg) (Ag.set (by simp)) rfl
              | tup q =>
                rw [hw.1.sh rfl]
                show SimS X _ Kn Kr c2 [i] true _ (if (m == Sm.sh || !(keyOk (.tup q) && keysOk kvs (.tup q) && valOk (.tup q) x)) = true then RS.stuck else if szOk (kvs.length + 1) = true then RS.nx (setS d2 i (some (m, .dic (dput kvs (.tup q) x)))) else RS.stuck)
                rw [hm, hz.1.1.1, hz.1.1.2, hz.1.2, hz.2]
                exact SimS.nxt (r2.put hg) (Ag.set (by simp)) rfl
              | _ => exact absurd hz.1.1.1 (by simp [keyOk])
          | _ => exact .inl (by simp [ifP, setP])
  | app i e =>
    refine ⟨fun ok β env d Kn Kr r hn => ?_, noHd fun _ _ _ => rfl⟩
    simp only [okS, Bool.and_eq_true, Bool.not_eq_true'] at ok
    obtain ⟨⟨oe, hi⟩, nx⟩ := ok
    have hi' := ctF hi
    simp only [evS]
    have se := hE e oe env d (fun v env => (match getS env i with
      | some s => ifP (!(s.1 == .sh)) (asL s.2 fun ds => ifP (szOk (ds.length + 1)) (Kn (setS env i (some (s.1, .lst (ds ++ [v]))))))
      | none => .stuck)) r hn
    cases hl : isLO d i with
    | false =>
      rw [Bool.not_false, if_pos rfl]
      rcases se with h | ⟨w, y, c2, d2, h1, h2, h3, h4, h5⟩ | ⟨_, _, _, _, h, _⟩
      · exact .inl h
      · refine .inl (h5.trans ?_)
        simp only [h4.at' i hi']
        cases hg : getS env i with
        | none => rfl
        | some s =>
          obtain ⟨m, z⟩ := s
          have := r.at' i _ hg
          unfold isLO at hl
          rw [this] at hl
          cases m with
          | sh => rfl
          | _ => cases z with
            | lst => cases hl
            | _ => rfl
      · rw [nx] at h; cases h
    | true =>
      rw [Bool.not_true, if_neg (by decide)]
      refine (Sim.toS (u := [i]) (nb := true) se fun w y c2 d2 hw r2 g2 => ?_).mono (fun _ z => z) (fun z => by simpa [nxS] using z) (fun z => z)
      simp only [hw.1.low]
      cases hg : getS c2 i with
      | none => exact .inl rfl
      | some s =>
        obtain ⟨m, z⟩ := s
        simp only [r2.at' i _ hg]
        cases hm : (m == Sm.sh) with
        | true => exact .inl rfl
        | false =>
          cases z with
          | lst ds =>
            simp only [hm, if_neg (show ¬ (false = true) by decide)]
            show SimS X _ Kn Kr c2 [i] true (ifP (szOk (ds.length + 1)) (Kn (setS c2 i (some (m, .lst (ds ++ [y])))))) _
            cases hz : szOk (ds.length + 1) with
            | false => exact .inl rfl
            | true => exact SimS.nxt (r2.put hg) (Ag.set (by simp)) rfl
          | _ => exact .inl rfl
  | clear i =>
    refine ⟨fun ok β env d Kn Kr r hn => ?_, noHd fun _ _ _ => rfl⟩
    simp only [evS]
    show SimS X _ Kn Kr env [i] true (match getS env i with
      | some s => ifP (!(s.1 == .sh)) (asL s.2 fun _ => Kn (setS env i (some (s.1, .lst []))))
      | none => .stuck) _
    cases hg : getS env i with
    | none => exact .inl rfl
    | some s =>
      obtain ⟨m, z⟩ := s
      simp only [r.at' i _ hg]
      cases hm : (m == Sm.sh) with
      | true => exact .inl rfl
      | false =>
        cases z with
        | lst ds =>
          simp only [hm, if_neg (show ¬ (false = true) by decide)]
          exact SimS.nxt (r.put hg) (Ag.set (by simp)) rfl
        | _ => exact .inl rfl
  | frz is =>
    refine ⟨fun ok β env d Kn Kr r hn => ?_, noHd fun _ _ _ => rfl⟩
    simp only [evS]
    exact SimS.nxt (frz_rl r) frz_ag rfl
  | forC i j c b =>
    refine ⟨fun ok β env d Kn Kr r hn => ?_, noHd fun _ _ _ => rfl⟩
    simp only [okS, Bool.and_eq_true, Bool.not_eq_true'] at ok
    obtain ⟨⟨⟨oc, nc⟩, ho⟩, hj⟩ := ok
    simp only [evS]
    show SimS X _ Kn Kr env (j :: touchE c) true (match getS env i with
      | some s => asL s.2 fun ds => ifP (!(s.1 == .sh || i == j || !c.quiet || (touchE c).any (isOw env) || isOw env j || decide (env.length ≤ j) || !b.pure)) (loopC (fun st x k => cE CC c (setS env j (some (.sh, x))) fun d _ => asB d fun t => bif t then Kr b (setS (wipeE env (touchE c)) j none) else k st) ds [] fun _ => Kn (setS (wipeE env (touchE c)) j none))
      | none => .stuck) _
    cases hg : getS env i with
    | none => exact .inl rfl
    | some s =>
      obtain ⟨m, z⟩ := s
      simp only [r.at' i _ hg]
      cases z with
      | lst ds =>
        show SimS X _ Kn Kr env (j :: touchE c) true (ifP (!(m == .sh || i == j || !c.quiet || (touchE c).any (isOw env) || isOw env j || decide (env.length ≤ j) || !b.pure)) (loopC (fun st x k => cE CC c (setS env j (some (.sh, x))) fun d _ => asB d fun t => bif t then Kr b (setS (wipeE env (touchE c)) j none) else k st) ds [] fun _ => Kn (setS (wipeE env (touchE c)) j none))) _
        cases hz : (m == .sh || i == j || !c.quiet || (touchE c).any (isOw env) || isOw env j || decide (env.length ≤ j) || !b.pure) with
        | true => exact .inl rfl
        | false =>
          have hz' : (m == .sh || i == j || !c.quiet || (touchE c).any (isOw d) || isOw d j || decide (d.length ≤ j) || !b.pure) = false := by
            simp only [Bool.or_eq_false_iff] at hz ⊢
            exact ⟨⟨⟨⟨⟨⟨hz.1.1.1.1.1.1, hz.1.1.1.1.1.2⟩, hz.1.1.1.1.2⟩, owSub r ho⟩, owNot r hj⟩, by rw [← r.len]; exact hz.1.2⟩, hz.2⟩
          have hb : b.pure = true := by simp only [Bool.or_eq_false_iff, Bool.not_eq_false'] at hz; exact hz.2
          simp only [hz', if_neg (show ¬ (false = true) by decide)]
          exact sim_forC hb hn r nc (fun env d K r hn => hE c oc env d K r hn) ds []
      | _ => exact .inl rfl
  | forD vs i tg k s ih =>
    refine ⟨fun ok β env d Kn Kr r hn => ?_, noHd fun _ _ _ => rfl⟩
    simp only [okS, Bool.and_eq_true] at ok
    obtain ⟨⟨⟨⟨os, ns⟩, kv⟩, hmu⟩, hlt⟩ := ok
    simp only [evS]
    show SimS X (frS X.Fr s) Kn Kr env (tgL tg ++ touchS s) true (match getS env i with
      | some d => (match d.1 with
        | .sh => asD d.2 fun kvs => ifP k.dic (optP (src1 k (.dic kvs)) fun xs => ifP (szOk xs.length) (optP (getA env env vs) fun st =>
        loopC (fun st x k => bnd tg x (putA env (wipeE env (tgL tg ++ touchS s)) vs st) fun e1 => cS CC s e1 (fun e2 => optP (getA env e2 vs) k) Kr) xs st fun st => Kn (putA env (wipeE env (tgL tg ++ touchS s)) vs st)))
        | _ => .stuck)
      | none => .stuck) _
    cases hg : getS env i with
    | none => exact .inl rfl
    | some q =>
      obtain ⟨m, z⟩ := q
      cases m with
      | sh =>
        cases z with
        | dic kvs =>
          simp only [r.at' i _ hg]
          show SimS X (frS X.Fr s) Kn Kr env (tgL tg ++ touchS s) true (ifP k.dic (optP (src1 k (.dic kvs)) fun xs => ifP (szOk xs.length) (optP (getA env env vs) fun st =>
        loopC (fun st x k => bnd tg x (putA env (wipeE env (tgL tg ++ touchS s)) vs st) fun e1 => cS CC s e1 (fun e2 => optP (getA env e2 vs) k) Kr) xs st fun st => Kn (putA env (wipeE env (tgL tg ++ touchS s)) vs st)))) _
          cases hk : k.dic with
          | false => exact .inl rfl
          | true =>
            rw [if_pos rfl]
            show SimS X (frS X.Fr s) Kn Kr env (tgL tg ++ touchS s) true (optP (src1 k (.dic kvs)) fun xs => ifP (szOk xs.length) (optP (getA env env vs) fun st =>
        loopC (fun st x k => bnd tg x (putA env (wipeE env (tgL tg ++ touchS s)) vs st) fun e1 => cS CC s e1 (fun e2 => optP (getA env e2 vs) k) Kr) xs st fun st => Kn (putA env (wipeE env (tgL tg ++ touchS s)) vs st))) _
            cases hs : src1 k (.dic kvs) with
            | none => exact .inl rfl
            | some xs =>
              show SimS X (frS X.Fr s) Kn Kr env (tgL tg ++ touchS s) true (ifP (szOk xs.length) (optP (getA env env vs) fun st =>
        loopC (fun st x k => bnd tg x (putA env (wipeE env (tgL tg ++ touchS s)) vs st) fun e1 => cS CC s e1 (fun e2 => optP (getA env e2 vs) k) Kr) xs st fun st => Kn (putA env (wipeE env (tgL tg ++ touchS s)) vs st))) _
              cases hz : szOk xs.length with
              | false => exact .inl rfl
              | true =>
                show SimS X (frS X.Fr s) Kn Kr env (tgL tg ++ touchS s) true (optP (getA env env vs) fun st =>
        loopC (fun st x k => bnd tg x (putA env (wipeE env (tgL tg ++ touchS s)) vs st) fun e1 => cS CC s e1 (fun e2 => optP (getA env e2 vs) k) Kr) xs st fun st => Kn (putA env (wipeE env (tgL tg ++ touchS s)) vs st)) _
                cases hst : getA env env vs with
                | none => exact .inl rfl
                | some st =>
                  have := sim_loop (X := X) (Kn := Kn) (Kr := Kr) (fr := frS X.Fr s) (nx := nxS X.Nx s) (env := env) (body := fun e1 K => cS CC s e1 K Kr) rfl kv hmu hlt hn (fun _ _ _ => rfl) (fun env d K r hn => ih.ev os env d K Kr r hn) xs st d (r.join Ag.rfl' hst)
                  rw [ns] at this
                  rcases this with h | ⟨c2, d2, k1, k2, k3, k4⟩ | ⟨v, y, c2, d2, k1, k2, k3, k4, k5, k6⟩ | ⟨_, _, _, _, h, _⟩
                  · exact .inl h
                  · simp only [k1, RS.hard]; exact SimS.nxt k2 k3 k4
                  · simp only [k1, RS.hard]; exact .inr (.inr (.inl ⟨v, y, c2, d2, rfl, k2, k3, k4, k5, k6⟩))
                  · cases h
        | _ => exact .inl rfl
      | _ => exact .inl rfl
  | ex e =>
    refine ⟨fun ok β env d Kn Kr r hn => ?_, noHd fun _ _ _ => rfl⟩
    simp only [evS]
    exact Sim.toS0 (hE e ok env d _ r hn) fun v x c1 d1 hv r1 g1 => SimS.nxt r1 Ag.rfl' rfl
  | ite c s t ihs iht =>
    refine ⟨fun ok β env d Kn Kr r hn => ?_, noHd fun _ _ _ => rfl⟩
    simp only [okS, Bool.and_eq_true] at ok
    simp only [evS]
    refine Sim.toS (u := touchS s ++ touchS t) (nb := nxS X.Nx s && nxS X.Nx t) (hE c ok.1 env d _ r hn) fun v x c1 d1 hv r1 g1 => ?_
    have hn1 : c1.length = X.n := by rw [g1.len]; exact hn
    cases x with
    | bl b =>
      rw [hv.1.sh rfl]
      cases b with
      | true => exact (ihs.ev ok.2.1 c1 d1 Kn Kr r1 hn1).mono (fun _ z => List.mem_append_left _ z) (fun z => by simp only [Bool.and_eq_true] at z; exact z.1) (fun z => by simp only [frS, Bool.and_eq_true] at z; exact z.1)
      | false => exact (iht.ev ok.2.2 c1 d1 Kn Kr r1 hn1).mono (fun _ z => List.mem_append_right _ z) (fun z => by simp only [Bool.and_eq_true] at z; exact z.2) (fun z => by simp only [frS, Bool.and_eq_true] at z; exact z.2)
    | _ => exact .inl rfl
  | iteJ vs c s t ihs iht =>
    refine ⟨fun ok β env d Kn Kr r hn => ?_, noHd fun _ _ _ => rfl⟩
    simp only [okS, Bool.and_eq_true] at ok
    obtain ⟨⟨oc, os, ot⟩, kv⟩ := ok
    simp only [evS]
    refine Sim.toS (u := touchS s ++ touchS t) (nb := nxS X.Nx s && nxS X.Nx t) (hE c oc env d _ r hn) fun v x c1 d1 hv r1 g1 => ?_
    have hn1 : c1.length = X.n := by rw [g1.len]; exact hn
    cases x with
    | bl b =>
      rw [hv.1.sh rfl]
      cases b with
      | true => exact ((ihs.ev os c1 d1 _ Kr r1 hn1).join (fun _ z => List.mem_append_left _ z) kv).mono (fun _ z => z) (fun z => by simp only [Bool.and_eq_true] at z; exact z.1) (fun z => by simp only [frS, Bool.and_eq_true] at z; exact z.1)
      | false => exact ((iht.ev ot c1 d1 _ Kr r1 hn1).join (fun _ z => List.mem_append_right _ z) kv).mono (fun _ z => z) (fun z => by simp only [Bool.and_eq_true] at z; exact z.2) (fun z => by simp only [frS, Bool.and_eq_true] at z; exact z.2)
    | _ => exact .inl rfl
  | «for» vs tg k a b s ih =>
    refine ⟨fun ok β env d Kn Kr r hn => ?_, noHd fun _ _ _ => rfl⟩
    simp only [okS, Bool.and_eq_true] at ok
    obtain ⟨⟨⟨⟨⟨⟨oa, ob⟩, hk⟩, os⟩, kv⟩, hmu⟩, hlt⟩ := ok
    simp only [evS]
    refine (Sim.toS (u := tgL tg ++ touchS s) (nb := nxS X.Nx s) (sim_I hk (fun K => hE a oa env d K r hn) hn (fun env d K r hn => hE b ob env d K r hn)) fun xs xs' c1 d1 hx r1 g1 => ?_).mono (fun i z => by simpa [touchS] using z) (fun z => z) (fun z => z)
    obtain ⟨rfl, hsz⟩ := hx
    have hn1 : c1.length = X.n := by rw [g1.len]; exact hn
    show SimS X _ Kn Kr c1 _ _ (optP (getA c1 c1 vs) fun st => _) _
    cases hst : getA c1 c1 vs with
    | none => exact .inl rfl
    | some st => exact sim_loop (X := X) (Kn := Kn) (Kr := Kr) (env := c1) (body := fun e1 K => cS CC s e1 K Kr) rfl kv hmu hlt hn1 (fun _ _ _ => rfl) (fun env d K r hn => ih.ev os env d K Kr r hn) xs st d1 (r1.join Ag.rfl' hst)
  | wh vs n c s ih =>
    refine ⟨fun ok β env d Kn Kr r hn => ?_, noHd fun _ _ _ => rfl⟩
    simp only [okS, Bool.and_eq_true] at ok
    obtain ⟨⟨oc, os⟩, kv⟩ := ok
    simp only [evS]
    show SimS X _ Kn Kr env _ _ (optP (getA env env vs) fun st => _) _
    cases hst : getA env env vs with
    | none => exact .inl rfl
    | some st => exact sim_wh (X := X) (Kn := Kn) (Kr := Kr) (env := env) (body := fun e1 K => cS CC s e1 K Kr) rfl kv hn (fun _ _ _ => rfl) (fun env d K r hn => hE c oc env d K r hn) (fun env d K r hn => ih.ev os env d K Kr r hn) n st d (r.join Ag.rfl' hst)
  | ret e =>
    refine ⟨fun ok β env d Kn Kr r hn => ?_, noHd fun _ _ _ => rfl⟩
    simp only [evS]
    refine Sim.toS0 (hE e ok env d _ r hn) fun v x c1 d1 hv r1 g1 => ?_
    simp only [hv.1.low]
    exact .inr (.inr (.inl ⟨v, x, c1, d1, rfl, hv.1, hv.2, r1, Ag.rfl', rfl⟩))
  | retN =>
    refine ⟨fun ok β env d Kn Kr r hn => ?_, noHd fun _ _ _ => rfl⟩
    simp only [evS]
    exact .inr (.inr (.inl ⟨(.sh, .non), .non, env, d, rfl, lowV.one _, (fun _ z => nomatch z), r, Ag.rfl', rfl⟩))
  | never => exact ⟨fun ok β env d Kn Kr r hn => .inl rfl, noHd fun _ _ _ => rfl⟩
  | raise c e =>
    refine ⟨fun ok β env d Kn Kr r hn => ?_, noHd fun _ _ _ => rfl⟩
    simp only [evS]
    refine (Sim.toS (u := []) (nb := false) (hE e ok env d _ r hn) fun v x c1 d1 hv r1 g1 => ?_).mono (fun i z => by simpa [touchS] using z) (fun z => nomatch z) (fun z => z)
    simp only [hv.1.low]
    cases hf : (fieldOf c).isSome with
    | false => exact .inl rfl
    | true => exact .inr (.inr (.inr ⟨_, d1, rfl, r1.wipe, rfl, rfl⟩))
  | «try» vs s h ihs ihh =>
    refine ⟨fun ok β env d Kn Kr r hn => ?_, noHd fun _ _ _ => rfl⟩
    simp only [okS, Bool.and_eq_true] at ok
    obtain ⟨⟨os, oh⟩, kv⟩ := ok
    simp only [evS]
    show SimS X _ Kn Kr env (touchS s ++ touchS h) (nxS X.Nx s && nxS X.Nx h) (tryC (cS CC s env (fun e' => optP (getA env e' vs) fun st => P.ok st) (fun _ _ => .stuck)) (fun st => Kn (putA env (wipeE env (touchS s ++ touchS h)) vs st)) (fun x => cH CC h x (wipeE env (touchS s)) (fun e' => optP (getA env e' vs) fun st => Kn (putA env (wipeE env (touchS s ++ touchS h)) vs st)))) _
    rcases ihs.ev os env d (fun e' => optP (getA env e' vs) fun st => P.ok st) (fun _ _ => (.stuck : P (List D))) r hn with q | ⟨c2, d2, k1, k2, k3, k4⟩ | ⟨v, y, c2, d2, k1, k2, k3, k4, k5, k6⟩ | ⟨y, d2, k1, k2, k3, k4⟩
    · rw [q]; exact .inl rfl
    · rw [k4, k1]
      cases hst : getA env c2 vs with
      | none => exact .inl (by simp [optP, hst, tryC])
      | some st =>
        have k3' : Ag (touchS s ++ touchS h) env c2 := k3.mono fun _ z => List.mem_append_left _ z
        simp only [optP, hst, tryC]
        exact SimS.nxt (k2.join k3' hst) (k3'.join hst (fun _ z => z) (fun i z => mem_inL kv z)) rfl
    · rw [k6]; exact .inl rfl
    · rw [k4, k1]
      simp only [tryC]
      have hl : (wipeE env (touchS s)).length = X.n := by rw [lWipe]; exact hn
      have aw : Ag (touchS s) env (wipeE env (touchS s)) := ⟨lWipe _, fun i hi => by rw [gWipe, if_neg hi]⟩
      rcases ihh.hd oh y (wipeE env (touchS s)) d2 (fun e' => optP (getA env e' vs) fun st => Kn (putA env (wipeE env (touchS s ++ touchS h)) vs st)) k2 hl with q | ⟨c3, d3, m1, m2, m3, m4⟩ | ⟨v, z, c3, d3, m1, m2, m3, m4, m5, m6⟩ | ⟨z, d3, m1, m2, m3, m4⟩
      · exact .inl q
      · rw [m4, m1]
        have g3 : Ag (touchS s ++ touchS h) env c3 := aw.app m3
        cases hst : getA env c3 vs with
        | none => exact .inl (by simp [optP, hst])
        | some st =>
          simp only [optP, hst]
          exact SimS.nxt (m2.join g3 hst) (g3.join hst (fun _ z => z) (fun i z => mem_inL kv z)) rfl
      · rw [m6]; exact .inl rfl
      · rw [m4, m1]
        exact .inr (.inr (.inr ⟨z, d3, rfl, m2.wback aw, by rw [k3, Bool.false_and], rfl⟩))
  | hnil =>
    refine ⟨fun ok β env d Kn Kr r hn => .inl rfl, fun ok β x env d Kn r hn => ?_⟩
    simp only [evH]
    exact .inr (.inr (.inr ⟨x, d, rfl, r.wipe, rfl, rfl⟩))
  | hcons c nm s h ihs ihh =>
    refine ⟨fun ok β env d Kn Kr r hn => .inl rfl, fun ok β x env d Kn r hn => ?_⟩
    simp only [okS, Bool.and_eq_true] at ok
    obtain ⟨⟨os, oh⟩, hnm⟩ := ok
    simp only [evH]
    show SimS X _ Kn _ env _ false (bif isCls c x then (match (generalizing := false) nm with
      | none => cS CC s env Kn (fun _ _ => .stuck)
      | some i => cS CC s (setS env i (some (.sh, x))) (fun e' => Kn (setS e' i none)) (fun _ _ => .stuck)) else cH CC h x env Kn) _
    cases hx : isCls c x with
    | false =>
      rw [if_neg (by decide)]
      exact (ihh.hd oh x env d Kn r hn).mono (fun i z => by simp [touchS, z]) (fun z => nomatch z) (fun z => by simp only [frS, Bool.and_eq_true] at z; exact z.2)
    | true =>
      rw [if_pos rfl]
      cases nm with
      | none => exact (ihs.ev os env d Kn _ r hn).mono (fun i z => by simp [touchS, z]) (fun z => nomatch z) (fun z => by simp only [frS, Bool.and_eq_true] at z; exact z.1)
      | some i =>
        simp only [Bool.and_eq_true, Bool.not_eq_true', decide_eq_true_eq] at hnm
        obtain ⟨⟨hi, hl⟩, ns⟩ := hnm
        have hz : (isOw d i || decide (d.length ≤ i)) = false := by
          rw [owNot r hi, Bool.false_or]; exact decide_eq_false (by rw [← r.len, hn]; omega)
        simp only [hz, if_neg (show ¬ (false = true) by decide)]
        rcases ihs.ev os (setS env i (some (.sh, x))) (setS d i (some (.sh, x))) (fun e' => Kn (setS e' i none)) (fun _ _ => .stuck) r.sh (by rw [lSet]; exact hn) with q | ⟨c2, d2, k1, k2, k3, k4⟩ | ⟨v, y, c2, d2, k1, k2, k3, k4, k5, k6⟩ | ⟨_, _, _, _, q, _⟩
        · exact .inl q
        · simp only [k1, owNot k2 hi, if_neg (show ¬ (false = true) by decide)]
          refine SimS.nxt k2.no ?_ k4
          refine ⟨by rw [lSet, k3.len, lSet], fun j hj => ?_⟩
          have hji : j ≠ i := fun z => hj (by simp [touchS, z])
          have hjs : j ∉ touchS s := fun z => hj (by simp [touchS, z])
          rw [gNe hji, k3.at' j hjs, gNe hji]
        · exact .inl k6
        · rw [ns] at q; cases q
end
end En
end

section
set_option Elab.async false
set_option linter.all false
set_option maxRecDepth 100000
set_option maxHeartbeats 4000000
namespace En
open PySem

/-! ### defs: the plain run and the direct one -/
def muSl : List Sm → Nat → List Nat
  | [], _ => []
  | .mu :: ms, i => i :: muSl ms (i + 1)
  | _ :: ms, i => muSl ms (i + 1)
def owSl : S → List Nat
  | .asg i true _ => [i]
  | .asgM i _ => [i]
  | .seq s t | .ite _ s t | .iteJ _ _ s t | .try _ s t | .hcons _ _ s t => owSl s ++ owSl t
  | .for _ _ _ _ _ s | .wh _ _ _ s | .forD _ _ _ _ s => owSl s
  | _ => []
def kxOf (T : Tab) (Fr Nx : List Str) (F : Fn) : Kx where
  T := T
  Fr := Fr
  Nx := Nx
  Ow := muSl F.pm 0 ++ owSl F.body
  Mu := muSl F.pm 0
  n := F.N.length
  sub := fun _ h => List.mem_append_left _ h
def okF (T : Tab) (Fr Nx : List Str) (f : Str) (F : Fn) : Bool :=
  okS (kxOf T Fr Nx F) F.body && decide (F.pm.length ≤ F.N.length) && (!Fr.contains f || frS Fr F.body) && (!Nx.contains f || nxS Nx F.body) && (!F.pm.contains .mu || nxS Nx F.body)
def okTab (T : Tab) (Fr Nx : List Str) : Bool := T.all fun p => okF T Fr Nx p.1 p.2

theorem argC_S : ∀ {pm : List Sm} {vs : List Val} {e0 : Env}, argS pm vs = some e0 → argC pm (vs.map (·.2)) = some e0 := by
  intro pm
  induction pm with
  | nil => intro vs e0 h; cases vs with
    | nil => exact h
    | cons => cases h
  | cons m pm ih =>
    intro vs e0 h
    cases vs with
    | nil => cases m <;> cases h
    | cons v vs =>
      obtain ⟨md, d⟩ := v
      cases m with
      | sh =>
        simp only [argS] at h
        obtain ⟨x, hx, h⟩ := Option.bind_eq_some_iff.mp h
        obtain ⟨r, hr, rfl⟩ := Option.map_eq_some_iff.mp h
        have : x = d := by cases md <;> cases hx <;> rfl
        subst this
        simp only [List.map_cons, argC, ih hr, Option.map_some]
      | ow => cases h
      | mu =>
        cases md with
        | mu i =>
          simp only [argS] at h
          obtain ⟨r, hr, rfl⟩ := Option.map_eq_some_iff.mp h
          simp only [List.map_cons, argC, ih hr, Option.map_some]
        | _ => cases h
theorem argC_F : ∀ {pm : List Sm} {vs : List Val} {e0 : Env}, argF pm vs = some e0 → argC pm (vs.map (·.2)) = some e0 := by
  intro pm
  induction pm with
  | nil => intro vs e0 h; cases vs <;> cases h
  | cons m pm ih =>
    intro vs e0 h
    cases vs with
    | nil => cases m <;> (first | (cases h; done) | (cases pm <;> cases h))
    | cons v vs =>
      obtain ⟨md, d⟩ := v
      cases m with
      | sh =>
        cases md with
        | sh =>
          simp only [argF] at h
          obtain ⟨r, hr, rfl⟩ := Option.map_eq_some_iff.mp h
          simp only [List.map_cons, argC, ih hr, Option.map_some]
        | _ => cases h
      | ow => cases h
      | mu =>
        cases pm with
        | cons => cases md <;> cases h
        | nil =>
          cases md with
          | fr =>
            cases vs with
            | nil => exact h
            | cons => cases h
          | _ => cases h
theorem argC_X {pm : List Sm} {vs : List Val} {e0 : Env} (h : argX pm vs = some e0) : argC pm (vs.map (·.2)) = some e0 := by
  unfold argX at h
  cases hs : argS pm vs with
  | some e => rw [hs] at h; cases h; exact argC_S hs
  | none => rw [hs] at h; exact argC_F h
theorem padN_eq : ∀ {N : List Str} {e : Env}, padN N e = e ++ List.replicate (N.length - e.length) none := by
  intro N
  induction N with
  | nil => intro e; simp [padN]
  | cons n N ih =>
    intro e
    cases e with
    | nil => simp only [padN, ih, List.nil_append, List.length_nil, Nat.sub_zero, List.length_cons, List.replicate_succ]
    | cons s e => simp only [padN, ih, List.cons_append, List.length_cons, Nat.add_sub_add_right]
theorem argC_len : ∀ {pm : List Sm} {ds : List D} {e0 : Env}, argC pm ds = some e0 → e0.length = pm.length := by
  intro pm
  induction pm with
  | nil => intro ds e0 h; cases ds with
    | nil => cases h; rfl
    | cons => cases h
  | cons m pm ih =>
    intro ds e0 h
    cases ds with
    | nil => cases h
    | cons d ds =>
      simp only [argC] at h
      obtain ⟨r, hr, rfl⟩ := Option.map_eq_some_iff.mp h
      simp only [List.length_cons, ih hr]
theorem noOw : ∀ {pm : List Sm}, pm.contains .ow = false ∨ True := fun {_} => .inr trivial
theorem argX_ow : ∀ {pm : List Sm} {vs : List Val} {e0 : Env}, argX pm vs = some e0 → pm.contains .ow = false := by
  have hS : ∀ {pm : List Sm} {vs : List Val} {e0 : Env}, argS pm vs = some e0 → pm.contains .ow = false := by
    intro pm
    induction pm with
    | nil => intro vs e0 h; rfl
    | cons m pm ih =>
      intro vs e0 h
      cases vs with
      | nil => cases m <;> cases h
      | cons v vs =>
        obtain ⟨md, d⟩ := v
        cases m with
        | sh =>
          simp only [argS] at h
          obtain ⟨x, hx, h⟩ := Option.bind_eq_some_iff.mp h
          obtain ⟨r, hr, rfl⟩ := Option.map_eq_some_iff.mp h
          simpa using ih hr
        | ow => cases h
        | mu =>
          cases md with
          | mu i =>
            simp only [argS] at h
            obtain ⟨r, hr, rfl⟩ := Option.map_eq_some_iff.mp h
            simpa using ih hr
          | _ => cases h
  have hF : ∀ {pm : List Sm} {vs : List Val} {e0 : Env}, argF pm vs = some e0 → pm.contains .ow = false := by
    intro pm
    induction pm with
    | nil => intro vs e0 h; rfl
    | cons m pm ih =>
      intro vs e0 h
      cases vs with
      | nil => cases m <;> (first | (cases h; done) | (cases pm <;> cases h))
      | cons v vs =>
        obtain ⟨md, d⟩ := v
        cases m with
        | sh =>
          cases md with
          | sh =>
            simp only [argF] at h
            obtain ⟨r, hr, rfl⟩ := Option.map_eq_some_iff.mp h
            simpa using ih hr
          | _ => cases h
        | ow => cases h
        | mu =>
          cases pm with
          | cons => cases md <;> cases h
          | nil => rfl
  intro pm vs e0 h
  unfold argX at h
  cases hs : argS pm vs with
  | some e => exact hS hs
  | none => rw [hs] at h; exact hF h
/-- at the beginning the only owned ones are the mutable parameters -/
theorem argC_mu : ∀ {pm : List Sm} {ds : List D} {e0 : Env} {k : Nat} {n : Nat}, argC pm ds = some e0 → pm.contains .ow = false → ∀ i m x, getS (e0 ++ List.replicate n none) i = some (m, x) → m = .sh ∨ (m = .mu ∧ k + i ∈ muSl pm k) := by
  intro pm
  induction pm with
  | nil =>
    intro ds e0 k n h _ i m x hg
    cases ds with
    | cons => cases h
    | nil =>
      cases h
      exfalso
      unfold getS at hg
      rw [List.nil_append, List.getElem?_replicate] at hg
      split at hg <;> cases hg
  | cons p pm ih =>
    intro ds e0 k n h ho i m x hg
    cases ds with
    | nil => cases h
    | cons d ds =>
      simp only [argC] at h
      obtain ⟨r, hr, rfl⟩ := Option.map_eq_some_iff.mp h
      cases i with
      | zero =>
        cases hg
        cases p with
        | sh => exact .inl rfl
        | ow => simp at ho
        | mu => exact .inr ⟨rfl, by simp [muSl]⟩
      | succ i =>
        have ho' : pm.contains .ow = false := by
          cases p <;> simp at ho ⊢ <;> exact ho
        rcases ih (k := k + 1) (n := n) hr ho' i m x hg with h | ⟨h1, h2⟩
        · exact .inl h
        · refine .inr ⟨h1, ?_⟩
          have e : k + 1 + i = k + (i + 1) := by omega
          rw [e] at h2
          cases p with
          | mu => exact List.mem_cons_of_mem _ h2
          | _ => exact h2
theorem noMuIn : ∀ {pm : List Sm} {k : Nat}, pm.contains .mu = false → ∀ i, i ∉ muSl pm k := by
  intro pm
  induction pm with
  | nil => intro k _ i h; cases h
  | cons p pm ih =>
    intro k h i hi
    cases p with
    | mu => simp at h
    | sh => exact ih (k := k + 1) (by simpa using h) i hi
    | ow => exact ih (k := k + 1) (by simpa using h) i hi
theorem finC_no : ∀ {pm : List Sm} {env : Env} {k : Nat}, pm.contains .mu = false → finC pm env k = some .non := by
  intro pm
  induction pm with
  | nil => intro env k _; rfl
  | cons p pm ih =>
    intro env k h
    cases p with
    | mu => simp at h
    | sh => exact ih (by simpa using h)
    | ow => exact ih (by simpa using h)
theorem finS_none : ∀ {pm : List Sm} {env : Env}, pm.contains .mu = false → finS pm env = none := by
  intro pm
  induction pm with
  | nil => intro env h; cases env <;> rfl
  | cons m pm ih =>
    intro env h
    cases env with
    | nil => cases m <;> rfl
    | cons s env =>
      cases m with
      | mu => simp at h
      | _ => exact ih (by simpa using h)
theorem finS_of : ∀ {pm : List Sm} {c d : Env} {k : Nat} {w : D}, pm.contains .mu = true → (∀ i s, getS c (k + i) = some s → getS d i = some s) → finC pm c k = some w → finS pm d = some w := by
  intro pm
  induction pm with
  | nil => intro c d k w h; cases h
  | cons p pm ih =>
    intro c d k w h hr hf
    have hd : p ≠ .mu → pm.contains .mu = true → ∃ s d', d = s :: d' → True := fun _ _ => ⟨none, [], fun _ => trivial⟩
    cases p with
    | mu =>
      simp only [finC] at hf
      cases hg : getS c k with
      | none => rw [hg] at hf; cases hf
      | some s =>
        obtain ⟨m, x⟩ := s
        rw [hg] at hf
        cases m with
        | mu =>
          have hx : x = w := by simpa using hf
          subst hx
          have := hr 0 _ hg
          cases d with
          | nil => cases this
          | cons s d =>
            have hs : s = some (.mu, x) := by
              cases s with
              | none => cases this
              | some q => exact this
            subst hs
            rfl
        | _ => cases hf
    | sh =>
      have hc : pm.contains .mu = true := by simpa using h
      cases d with
      | nil =>
        have := ih (d := []) (k := k + 1) hc (fun i s hs => by
          have e : k + 1 + i = k + (i + 1) := by omega
          rw [e] at hs
          have := hr (i + 1) s hs
          exact absurd this (by simp [getS])) hf
        exact absurd this (by cases pm with | nil => simp [finS] | cons a b => cases a <;> simp [finS])
      | cons s d =>
        show finS pm d = some w
        exact ih (k := k + 1) hc (fun i s hs => by
          have e : k + 1 + i = k + (i + 1) := by omega
          rw [e] at hs
          exact hr (i + 1) s hs) hf
    | ow =>
      have hc : pm.contains .mu = true := by simpa using h
      cases d with
      | nil =>
        have := ih (d := []) (k := k + 1) hc (fun i s hs => by
          have e : k + 1 + i = k + (i + 1) := by omega
          rw [e] at hs
          have := hr (i + 1) s hs
          exact absurd this (by simp [getS])) hf
        exact absurd this (by cases pm with | nil => simp [finS] | cons a b => cases a <;> simp [finS])
      | cons s d =>
        show finS pm d = some w
        exact ih (k := k + 1) hc (fun i s hs => by
          have e : k + 1 + i = k + (i + 1) := by omega
          rw [e] at hs
          exact hr (i + 1) s hs) hf

/-- one def -/
theorem run_sim {T : Tab} {Fr Nx : List Str} {f : Str} {F : Fn} {C : Calls} {CC : CCalls} (ok : okF T Fr Nx f F = true) (hC : HC (kxOf T Fr Nx F) C CC) {vs : List Val} {env0 : Env} (ha : argX F.pm vs = some env0) (h1 : oneMu F.pm = true) :
    runC CC F (vs.map (·.2)) = .stuck ∨ (∃ v d w, runC CC F (vs.map (·.2)) = .ok (d, w) ∧ runF C F vs = .ok v (if F.pm.contains .mu then some w else none) ∧ lowV v d ∧ (Fr.contains f = true → LD d = true → v.1 = .fr)) ∨
      (∃ x, runC CC F (vs.map (·.2)) = .exc x ∧ runF C F vs = .exc x ∧ F.pm.contains .mu = false ∧ Nx.contains f = false) := by
  unfold okF at ok
  simp only [Bool.and_eq_true, decide_eq_true_eq] at ok
  obtain ⟨⟨⟨⟨os, hl⟩, hfr⟩, hnx⟩, hmu⟩ := ok
  have hac := argC_X ha
  have hpo := argX_ow ha
  have r0 : Rl (muSl F.pm 0 ++ owSl F.body) (muSl F.pm 0) (padN F.N env0) (env0 ++ List.replicate (F.N.length - env0.length) none) := by
    rw [padN_eq]
    refine ⟨rfl, fun _ _ h => h, fun i h => ?_, fun i h => ?_⟩
    · cases hg : getS (env0 ++ List.replicate (F.N.length - env0.length) none) i with
      | none => rw [isOw_no' hg] at h; cases h
      | some s =>
        obtain ⟨m, x⟩ := s
        rcases argC_mu (k := 0) hac hpo i m x hg with e | ⟨e, q⟩
        · rw [isOw_at hg, e] at h; cases h
        · exact List.mem_append_left _ (by simpa using q)
    · cases hg : getS (env0 ++ List.replicate (F.N.length - env0.length) none) i with
      | none => rw [isMu_no hg] at h; cases h
      | some s =>
        obtain ⟨m, x⟩ := s
        rcases argC_mu (k := 0) hac hpo i m x hg with e | ⟨e, q⟩
        · rw [isMu_at hg, e] at h; cases h
        · simpa using q
  have hn : (padN F.N env0).length = F.N.length := by
    rw [padN_eq, List.length_append, List.length_replicate]
    have := argC_len hac
    omega
  have e1 : runC CC F (vs.map (·.2)) = cS CC F.body (padN F.N env0) (fun env => optP (finC F.pm env 0) fun w => .ok (.non, w)) (fun d env => optP (finC F.pm env 0) fun w => .ok (d, w)) := by
    unfold runC; rw [hac]
  rw [e1]
  unfold runF
  rw [ha]
  simp only [h1, Bool.not_true, if_neg (show ¬ (false = true) by decide)]
  have hfin : ∀ (c d : Env), Rl (muSl F.pm 0 ++ owSl F.body) (muSl F.pm 0) c d → ∀ w, finC F.pm c 0 = some w → (F.pm.contains .mu && (finS F.pm d).isNone) = false ∧ finS F.pm d = (if F.pm.contains .mu then some w else none) := fun c d r w hw => by
    cases hm : F.pm.contains .mu with
    | false => exact ⟨rfl, by rw [finS_none hm]; rfl⟩
    | true =>
      have := finS_of hm (fun i s h => r.at' i s (by simpa using h)) hw
      rw [this]
      exact ⟨rfl, rfl⟩
  rcases (simS hC F.body).ev os (padN F.N env0) _ (fun env => optP (finC F.pm env 0) fun w => .ok (.non, w)) (fun d env => optP (finC F.pm env 0) fun w => P.ok (d, w)) r0 hn with h | ⟨c2, d2, k1, k2, k3, k4⟩ | ⟨v, y, c2, d2, k1, k2, k3, k4, k5, k6⟩ | ⟨y, d2, k1, k2, k3, k4⟩
  · exact .inl h
  · rw [k4, k1]
    cases hw : finC F.pm c2 0 with
    | none => exact .inl (by simp only [hw, optP])
    | some w =>
      obtain ⟨q1, q2⟩ := hfin c2 d2 k2 w hw
      refine .inr (.inl ⟨(.sh, .non), .non, w, by simp only [hw, optP], ?_, lowV.one _, fun _ z => nomatch z⟩)
      show (if (F.pm.contains .mu && (finS F.pm d2).isNone) = true then CR.stuck else CR.ok _ (finS F.pm d2)) = _; rw [q1, if_neg (by decide), q2]
  · rw [k6, k1]
    cases hw : finC F.pm c2 0 with
    | none => exact .inl (by simp only [hw, optP])
    | some w =>
      obtain ⟨q1, q2⟩ := hfin c2 d2 k4 w hw
      refine .inr (.inl ⟨v, y, w, by simp only [hw, optP], ?_, k2, fun z => k3 ?_⟩)
      · show (if (F.pm.contains .mu && (finS F.pm d2).isNone) = true then CR.stuck else CR.ok _ (finS F.pm d2)) = _; rw [q1, if_neg (by decide), q2]
      · rw [z] at hfr; show frS Fr F.body = true; simpa using hfr
  · rw [k4, k1]
    have hm : F.pm.contains .mu = false := by
      cases hm : F.pm.contains .mu with
      | false => rfl
      | true => rw [hm] at hmu; have : nxS Nx F.body = true := by simpa using hmu
                rw [show nxS Nx F.body = false from k3] at this; cases this
    have hx : Nx.contains f = false := by
      cases hx : Nx.contains f with
      | false => rfl
      | true => rw [hx] at hnx; have : nxS Nx F.body = true := by simpa using hnx
                rw [show nxS Nx F.body = false from k3] at this; cases this
    refine .inr (.inr ⟨y, rfl, ?_, hm, hx⟩)
    simp only [hm, if_neg (show ¬ (false = true) by decide)]
theorem lookup_mem : ∀ {T : Tab} {f : Str} {F : Fn}, T.lookup f = some F → ∃ p ∈ T, p.1 = f ∧ p.2 = F := by
  intro T
  induction T with
  | nil => intro f F h; cases h
  | cons p T ih =>
    intro f F h
    obtain ⟨g, G⟩ := p
    rw [List.lookup_cons] at h
    cases hb : (f == g) with
    | true => rw [hb] at h; cases h; exact ⟨_, List.mem_cons_self, (beq_iff_eq.mp hb).symm, rfl⟩
    | false =>
      rw [hb] at h
      obtain ⟨p, hp, h1, h2⟩ := ih h
      exact ⟨p, List.mem_cons_of_mem _ hp, h1, h2⟩
theorem HC.of {X Y : Kx} {C : Calls} {CC : CCalls} (h : HC X C CC) (e1 : X.T = Y.T) (e2 : X.Fr = Y.Fr) (e3 : X.Nx = Y.Nx) : HC Y C CC := by
  refine ⟨fun f F hf vs env0 ha h1 => ?_⟩
  rw [← e1] at hf
  rw [← e2, ← e3]
  exact h.call f F hf vs env0 ha h1
theorem call_sim {T : Tab} {Fr Nx : List Str} (ok : okTab T Fr Nx = true) : ∀ (n : Nat) (F : Fn), HC (kxOf T Fr Nx F) (callN T n) (callC T n) := by
  intro n
  induction n with
  | zero => exact fun F => ⟨fun f F hf vs env0 ha h1 => .inl rfl⟩
  | succ n ih =>
    refine fun F0 => ⟨fun f F hf vs env0 ha h1 => ?_⟩
    have hf' : T.lookup f = some F := hf
    obtain ⟨p, hp, e1, e2⟩ := lookup_mem hf'
    have hok := List.all_eq_true.mp ok p hp
    rw [e1, e2] at hok
    have e3 : callC T (n + 1) f (vs.map (·.2)) = runC (callC T n) F (vs.map (·.2)) := by show (match T.lookup f with | some F => _ | none => _) = _; rw [hf']
    have e4 : callN T (n + 1) f vs = runF (callN T n) F vs := by show (match T.lookup f with | some F => _ | none => _) = _; rw [hf']
    rw [e3, e4]
    exact run_sim hok (ih F) ha h1
/-- the law -/
theorem law_sim {T : Tab} {Fr Nx : List Str} {f : Str} {F : Fn} {n : Nat} {d w : D} {b : Bool} (ok : okTab T Fr Nx = true) (hF : okF T Fr Nx f F = true) (hp : F.pm = [.sh]) (h : runC (callC T n) F [d] = .ok (.bl b, w)) :
    runF (callN T n) F [(.sh, d)] = .ok (.sh, .bl b) none := by
  have ha : argX F.pm [(.sh, d)] = some [some (.sh, d)] := by rw [hp]; rfl
  rcases run_sim hF (call_sim ok n F) ha (by rw [hp]; rfl) with h1 | ⟨v, x, w', h1, h2, h3, h4⟩ | ⟨x, h1, _⟩
  · rw [show [(Md.sh, d)].map (·.2) = [d] from rfl, h] at h1; cases h1
  · rw [show [(Md.sh, d)].map (·.2) = [d] from rfl, h] at h1
    cases h1
    rw [h2, h3.sh rfl, hp]
    rfl
  · rw [show [(Md.sh, d)].map (·.2) = [d] from rfl, h] at h1; cases h1
end En
end

section
set_option maxRecDepth 100000
open En PySem
namespace Sh
noncomputable section
def b_is_blank : S := (.seq (.ret (.un (.isK .str) (.var 0)))
    .skip)
def f_is_blank : Fn := ⟨"is_blank", ["term"], [.sh], b_is_blank⟩

def b_inner : S := (.seq (.ite (.call "is_blank" (.cons (.var 0) .nil))
    (.seq (.ret (.lst .nil))
    .skip)
    .skip)
    (.seq (.ret (.un .list (.sl (.var 0) (.lit (.int 1)) .nix)))
    .skip))
def f_inner : Fn := ⟨"inner", ["term"], [.sh], b_inner⟩

def b__law_cell : S := (.seq (.ite (.bin .lt (.var 1) (.un .len (.var 0)))
    (.seq (.ret (.bin .idx (.var 0) (.var 1)))
    .skip)
    .skip)
    (.seq (.ret (.lit (.int 0)))
    .skip))
def f__law_cell : Fn := ⟨"_law_cell", ["_law_script", "_law_k"], [.sh, .sh], b__law_cell⟩

def b__law_words : S := (.seq (.asg 1 false (.lit (.str "abcdefghijklmnopqrstuvwxyz")))
    (.seq (.asg 2 false (.bin .mod (.bin .mul (.var 0) (.lit (.int 1000000007))) (.bin .pow (.lit (.int 10)) (.lit (.int 18)))))
    (.seq (.asg 3 false (.lit (.str "")))
    (.seq (.for [2, 3] (.one 4) .rng (.bin .mod (.var 2) (.lit (.int 7))) .nix
    (.seq (.asg 3 false (.bin .add (.var 3) (.bin .idx (.var 1) (.bin .mod (.bin .fdiv (.var 2) (.lit (.int 7))) (.lit (.int 26))))))
    (.seq (.asg 2 false (.bin .fdiv (.var 2) (.lit (.int 11))))
    .skip)))
    (.seq (.asg 5 false (.bin .mod (.bin .fdiv (.var 2) (.lit (.int 7))) (.bin .add (.un .len (.var 3)) (.lit (.int 1)))))
    (.seq (.ite (.bin .eq (.bin .mod (.var 2) (.lit (.int 3))) (.lit (.int 0)))
    (.seq (.asg 3 false (.un .join (.lc [("_law_k", 4)] (.one 4) .rng (.lit (.int 6)) .nix (.lit (.bl true)) (.bin .idx (.var 1) (.bin .mod (.bin .fdiv (.var 2) (.bin .add (.lit (.int 3)) (.bin .mul (.var 4) (.var 4)))) (.lit (.int 26)))))))
    (.seq (.ret (.lc [("_law_k", 4)] (.one 4) .rng (.lit (.int 5)) .nix (.lit (.bl true)) (.sl (.var 3) .nix (.bin .add (.var 4) (.lit (.int 1))))))
    .skip))
    .skip)
    (.seq (.ret (.lc [("_law_k", 4)] (.one 4) .rng (.lit (.int 5)) .nix (.lit (.bl true)) (.bin .add (.bin .add (.sl (.var 3) .nix (.var 5)) (.bin .idx (.var 1) (.bin .mod (.bin .add (.bin .fdiv (.var 2) (.lit (.int 5))) (.bin .mul (.lit (.int 5)) (.var 4))) (.lit (.int 26))))) (.sl (.var 3) (.var 5) .nix))))
    .skip)))))))
def f__law_words : Fn := ⟨"_law_words", ["_law_cell_here", "_law_letters", "_law_number", "_law_base", "_law_k", "_law_at"], [.sh], b__law_words⟩

def b__law_sorts : S := (.seq (.asg 1 false (.call "_law_words" (.cons (.var 0) .nil)))
    (.seq (.asg 2 false (.bin .idx (.lst (.cons (.lst (.cons (.lit (.int 0)) (.cons (.lit (.int 2)) (.cons (.lit (.int 1)) (.cons (.lit (.int 0)) (.cons (.lit (.int 3)) .nil)))))) (.cons (.lst (.cons (.lit (.int 0)) (.cons (.lit (.int 1)) (.cons (.lit (.int 2)) (.cons (.lit (.int 2)) (.cons (.lit (.int 0)) .nil)))))) (.cons (.lst (.cons (.lit (.int 0)) (.cons (.lit (.int 3)) (.cons (.lit (.int 1)) (.cons (.lit (.int 1)) (.cons (.lit (.int 0)) .nil)))))) (.cons (.lst (.cons (.lit (.int 0)) (.cons (.lit (.int 2)) (.cons (.lit (.int 0)) (.cons (.lit (.int 1)) (.cons (.lit (.int 1)) .nil)))))) .nil))))) (.bin .mod (.bin .fdiv (.var 0) (.lit (.int 3))) (.lit (.int 4)))))
    (.seq (.asg 3 false (.bin .add (.lit (.int 2)) (.bin .mod (.bin .fdiv (.var 0) (.lit (.int 12))) (.lit (.int 4)))))
    (.seq (.ret (.lc [("_law_k", 4)] (.one 4) .rng (.var 3) .nix (.lit (.bl true)) (.tup (.cons (.bin .idx (.var 1) (.var 4)) (.cons (.bin .idx (.var 2) (.var 4)) .nil)))))
    .skip))))
def f__law_sorts : Fn := ⟨"_law_sorts", ["_law_cell_here", "_law_words_here", "_law_counts", "_law_many", "_law_k"], [.sh], b__law_sorts⟩

def b__law_blanks : S := (.seq (.asg 1 false (.lit (.str "ABCDEFGHIJKLMNOPQRSTUVWXYZ")))
    (.seq (.ret (.lc [("_law_k", 2)] (.one 2) .rng (.bin .add (.lit (.int 1)) (.bin .mod (.bin .fdiv (.var 0) (.lit (.int 26))) (.lit (.int 4)))) .nix (.lit (.bl true)) (.bin .idx (.var 1) (.bin .mod (.bin .add (.bin .mod (.var 0) (.lit (.int 26))) (.bin .mul (.lit (.int 7)) (.var 2))) (.lit (.int 26))))))
    .skip))
def f__law_blanks : Fn := ⟨"_law_blanks", ["_law_cell_here", "_law_letters", "_law_k"], [.sh], b__law_blanks⟩

def b__law_grown : S := (.seq (.asgT [7, 8] (.bin .idx (.var 2) (.bin .mod (.var 1) (.un .len (.var 2)))))
    (.seq (.asg 1 false (.bin .fdiv (.var 1) (.lit (.int 20))))
    (.seq (.asg 5 false (.sl (.var 0) (.bin .sub (.un .len (.var 0)) (.var 8)) .nix))
    (.seq (.asg 6 false (.un .max0 (.lc [("_law_one", 9)] (.one 9) .seq (.var 5) .nix (.lit (.bl true)) (.bin .idx (.var 9) (.lit (.int 1))))))
    (.seq (.ite (.and (.bin .gt (.var 8) (.lit (.int 0))) (.and (.bin .le (.var 8) (.un .len (.var 0))) (.and (.bin .lt (.var 6) (.var 4)) (.one (.bin .gt (.bin .mod (.var 1) (.lit (.int 4))) (.lit (.int 0)))))))
    (.seq (.ret (.bin .add (.sl (.var 0) .nix (.bin .sub (.un .len (.var 0)) (.var 8))) (.lst (.cons (.lst (.cons (.bin .add (.tup (.cons (.var 7) .nil)) (.un .tuple (.lc [("_law_one", 9)] (.one 9) .seq (.var 5) .nix (.lit (.bl true)) (.bin .idx (.var 9) (.lit (.int 0)))))) (.cons (.bin .add (.var 6) (.lit (.int 1))) .nil))) .nil))))
    .skip)
    .skip)
    (.seq (.ite (.or (.bin .eq (.var 3) (.lst .nil)) (.one (.bin .eq (.bin .mod (.bin .fdiv (.var 1) (.lit (.int 4))) (.lit (.int 3))) (.lit (.int 0)))))
    (.seq (.ret (.bin .add (.var 0) (.lst (.cons (.lst (.cons (.tup (.cons (.bin .idx (.bin .idx (.var 2) (.lit (.int 0))) (.lit (.int 0))) .nil)) (.cons (.lit (.int 1)) .nil))) .nil))))
    .skip)
    .skip)
    (.seq (.ret (.bin .add (.var 0) (.lst (.cons (.lst (.cons (.bin .idx (.var 3) (.bin .mod (.bin .fdiv (.var 1) (.lit (.int 12))) (.un .len (.var 3)))) (.cons (.lit (.int 1)) .nil))) .nil))))
    .skip)))))))
def f__law_grown : Fn := ⟨"_law_grown", ["_law_row", "_law_number", "_law_sorts_here", "_law_blanks_here", "_law_most", "_law_last", "_law_nest", "_law_word", "_law_many", "_law_one"], [.sh, .sh, .sh, .sh, .sh], b__law_grown⟩

def b__law_purse : S := (.seq (.asg 1 false (.bin .mod (.var 0) (.lit (.int 2147483647))))
    (.seq (.asg 2 false (.lit (.int 1)))
    (.seq (.for [1, 2] (.one 3) .rng (.lit (.int 16)) .nix
    (.seq (.asg 1 false (.bin .mod (.bin .add (.bin .add (.bin .add (.bin .mul (.var 1) (.var 1)) (.bin .mul (.bin .mul (.lit (.int 48271)) (.var 3)) (.var 3))) (.var 3)) (.lit (.int 3))) (.lit (.int 2147483629))))
    (.seq (.asg 2 false (.bin .add (.bin .mul (.var 2) (.lit (.int 2147483587))) (.bin .mod (.bin .mul (.var 1) (.var 1)) (.lit (.int 2147483587)))))
    .skip)))
    (.seq (.ite (.bin .eq (.bin .mod (.var 0) (.lit (.int 2))) (.lit (.int 0)))
    (.seq (.ret (.lst (.cons (.bin .fdiv (.un .abs (.var 0)) (.lit (.int 2))) (.cons (.var 2) .nil))))
    .skip)
    .skip)
    (.seq (.ret (.lst (.cons (.lit (.int 0)) (.cons (.var 2) .nil))))
    .skip)))))
def f__law_purse : Fn := ⟨"_law_purse", ["_law_cell_here", "_law_number", "_law_found", "_law_k"], [.sh], b__law_purse⟩

def b__law_take : S := (.seq (.asg 2 false (.un .int (.bin .eq (.bin .idx (.own 0) (.lit (.int 0))) (.lit (.int 0)))))
    (.seq (.asg 3 false (.bin .mod (.bin .idx (.own 0) (.var 2)) (.var 1)))
    (.seq (.setI 0 (.var 2) (.bin .fdiv (.bin .idx (.own 0) (.var 2)) (.var 1)))
    (.seq (.ret (.var 3))
    .skip))))
def f__law_take : Fn := ⟨"_law_take", ["_law_purse_here", "_law_many", "_law_at", "_law_found"], [.mu, .sh], b__law_take⟩

def b__law_stream : S := (.seq (.asg 2 true (.call "_law_purse" (.cons (.var 0) .nil)))
    (.seq (.ret (.lc [("_law_k", 3)] (.one 3) .rng (.var 1) .nix (.lit (.bl true)) (.call "_law_take" (.cons (.mut 2) (.cons (.lit (.int 4800)) .nil)))))
    .skip))
def f__law_stream : Fn := ⟨"_law_stream", ["_law_cell_here", "_law_many", "_law_purse_here", "_law_k"], [.sh, .sh], b__law_stream⟩

def b__law_count_k02 : S := (.seq (.ite (.un (.isK .str) (.var 0))
    (.seq (.ret (.lit (.int 1)))
    .skip)
    .skip)
    (.seq (.ret (.bin .add (.lit (.int 1)) (.un .sum (.lc [("_law_part_here", 1)] (.one 1) .seq (.sl (.var 0) (.lit (.int 1)) .nix) .nix (.lit (.bl true)) (.call "_law_count" (.cons (.var 1) .nil))))))
    .skip))
def f__law_count_k02 : Fn := ⟨"_law_count", ["_law_term_here", "_law_part_here"], [.sh], b__law_count_k02⟩

def b__law_term : S := (.seq (.asg 4 false (.lst .nil))
    (.seq (.for [4] (.one 5) .seq (.var 0) .nix
    (.seq (.asg 4 false (.call "_law_grown" (.cons (.var 4) (.cons (.var 5) (.cons (.var 1) (.cons (.var 2) (.cons (.var 3) .nil)))))))
    .skip))
    (.seq (.asg 6 false (.bin .idx (.bin .idx (.var 4) (.lit (.int 0))) (.lit (.int 0))))
    (.seq (.for [6] (.one 7) .seq (.sl (.var 4) (.lit (.int 1)) .nix) .nix
    (.seq (.iteJ [6] (.bin .ge (.call "_law_count" (.cons (.bin .idx (.var 7) (.lit (.int 0))) .nil)) (.call "_law_count" (.cons (.var 6) .nil)))
    (.seq (.asg 6 false (.bin .idx (.var 7) (.lit (.int 0))))
    .skip)
    .skip)
    .skip))
    (.seq (.ret (.var 6))
    .skip)))))
def f__law_term : Fn := ⟨"_law_term", ["_law_numbers", "_law_sorts_here", "_law_blanks_here", "_law_most", "_law_row", "_law_number", "_law_found", "_law_one"], [.sh, .sh, .sh, .sh], b__law_term⟩

def b__law_part : S := (.seq (.for [0] (.one 2) .seq (.var 1) .nix
    (.seq (.asg 0 false (.bin .idx (.var 0) (.bin .add (.lit (.int 1)) (.var 2))))
    .skip))
    (.seq (.ret (.var 0))
    .skip))
def f__law_part : Fn := ⟨"_law_part", ["_law_term_here", "_law_place", "_law_k"], [.sh, .sh], b__law_part⟩

def b__law_places : S := (.seq (.asg 1 false (.lst (.cons (.tup .nil) .nil)))
    (.seq (.iteJ [1] (.un (.isK .tup) (.var 0))
    (.seq (.for [1] (.one 2) .rng (.bin .sub (.un .len (.var 0)) (.lit (.int 1))) .nix
    (.seq (.asg 1 false (.bin .add (.var 1) (.lc [("_law_place", 3)] (.one 3) .seq (.call "_law_places" (.cons (.bin .idx (.var 0) (.bin .add (.lit (.int 1)) (.var 2))) .nil)) .nix (.lit (.bl true)) (.bin .add (.tup (.cons (.var 2) .nil)) (.var 3)))))
    .skip))
    .skip)
    .skip)
    (.seq (.ret (.var 1))
    .skip)))
def f__law_places : Fn := ⟨"_law_places", ["_law_term_here", "_law_found", "_law_k", "_law_place"], [.sh], b__law_places⟩

def b__law_put : S := (.seq (.ite (.bin .eq (.var 1) (.tup .nil))
    (.seq (.ret (.var 2))
    .skip)
    .skip)
    (.seq (.asg 3 false (.bin .add (.lit (.int 1)) (.bin .idx (.var 1) (.lit (.int 0)))))
    (.seq (.ret (.bin .add (.bin .add (.sl (.var 0) .nix (.var 3)) (.tup (.cons (.call "_law_put" (.cons (.bin .idx (.var 0) (.var 3)) (.cons (.sl (.var 1) (.lit (.int 1)) .nix) (.cons (.var 2) .nil)))) .nil))) (.sl (.var 0) (.bin .add (.var 3) (.lit (.int 1))) .nix)))
    .skip)))
def f__law_put : Fn := ⟨"_law_put", ["_law_term_here", "_law_place", "_law_new", "_law_k"], [.sh, .sh, .sh], b__law_put⟩

def b_blanks_of : S := (.seq (.ite (.call "is_blank" (.cons (.var 0) .nil))
    (.seq (.ret (.lst (.cons (.var 0) .nil)))
    .skip)
    .skip)
    (.seq (.asg 1 true (.lst .nil))
    (.seq (.for [1] (.one 2) .seq (.call "inner" (.cons (.var 0) .nil)) .nix
    (.seq (.aug 1 (.lc [("blank", 3)] (.one 3) .seq (.call "blanks_of" (.cons (.var 2) .nil)) .nix (.bin .nin (.var 3) (.own 1)) (.var 3)))
    .skip))
    (.seq (.ret (.mv 1))
    .skip))))
def f_blanks_of : Fn := ⟨"blanks_of", ["term", "found", "part", "blank"], [.sh], b_blanks_of⟩

def b_filled : S := (.seq (.ite (.call "is_blank" (.cons (.var 0) .nil))
    (.seq (.ret (.get (.var 1) (.var 0) (.var 0)))
    .skip)
    .skip)
    (.seq (.ret (.bin .add (.tup (.cons (.bin .idx (.var 0) (.lit (.int 0))) .nil)) (.un .tuple (.lc [("part", 2)] (.one 2) .seq (.call "inner" (.cons (.var 0) .nil)) .nix (.lit (.bl true)) (.call "filled" (.cons (.var 2) (.cons (.var 1) .nil)))))))
    .skip))
def f_filled : Fn := ⟨"filled", ["term", "filling", "part"], [.sh, .sh], b_filled⟩

def b__law_filled_k12 : S := (.seq (.ite (.un (.isK .str) (.var 0))
    (.seq (.ret (.get (.var 1) (.var 0) (.var 0)))
    .skip)
    .skip)
    (.seq (.ret (.bin .add (.sl (.var 0) .nix (.lit (.int 1))) (.un .tuple (.lc [("_law_part_here", 2)] (.one 2) .seq (.sl (.var 0) (.lit (.int 1)) .nix) .nix (.lit (.bl true)) (.call "_law_filled" (.cons (.var 2) (.cons (.var 1) .nil)))))))
    .skip))
def f__law_filled_k12 : Fn := ⟨"_law_filled", ["_law_term_here", "_law_filling", "_law_part_here"], [.sh, .sh], b__law_filled_k12⟩

def b_bound : S := (.seq (.asg 3 true .dic0)
    (.seq (.forD [3] 0 (.many [4, 5]) .items
    (.seq (.setI 3 (.var 4) (.call "filled" (.cons (.var 5) (.cons (.dic1 (.var 1) (.var 2)) .nil))))
    .skip))
    (.seq (.setI 3 (.var 1) (.var 2))
    (.seq (.ret (.mv 3))
    .skip))))
def f_bound : Fn := ⟨"bound", ["filling", "blank", "term", "found", "key", "value"], [.sh, .sh, .sh], b_bound⟩

def b_made_alike : S := (.seq (.asg 2 false .dic0)
    (.seq (.asg 3 true (.lst (.cons (.tup (.cons (.var 0) (.cons (.var 1) .nil))) .nil)))
    (.seq (.wh [2, 3] fuel (.bin .ne (.own 3) (.lst .nil))
    (.seq (.asgT [4, 5] (.pop 3))
    (.seq (.asg 4 false (.call "filled" (.cons (.var 4) (.cons (.var 2) .nil))))
    (.seq (.asg 5 false (.call "filled" (.cons (.var 5) (.cons (.var 2) .nil))))
    (.seq (.iteJ [4, 5] (.and (.call "is_blank" (.cons (.var 5) .nil)) (.one (.not (.call "is_blank" (.cons (.var 4) .nil)))))
    (.seq (.asgP 4 5 (.var 5) (.var 4))
    .skip)
    .skip)
    (.seq (.iteJ [2, 3] (.and (.call "is_blank" (.cons (.var 4) .nil)) (.one (.bin .ne (.var 4) (.var 5))))
    (.seq (.ite (.bin .inn (.var 4) (.call "blanks_of" (.cons (.var 5) .nil)))
    (.seq (.ret (.lit .non))
    .skip)
    .skip)
    (.seq (.asg 2 false (.call "bound" (.cons (.var 2) (.cons (.var 4) (.cons (.var 5) .nil)))))
    .skip))
    (.seq (.iteJ [3] (.not (.call "is_blank" (.cons (.var 4) .nil)))
    (.seq (.ite (.or (.bin .ne (.bin .idx (.var 4) (.lit (.int 0))) (.bin .idx (.var 5) (.lit (.int 0)))) (.one (.bin .ne (.un .len (.var 4)) (.un .len (.var 5)))))
    (.seq (.ret (.lit .non))
    .skip)
    .skip)
    (.seq (.aug 3 (.lc [("part", 6), ("its", 7)] (.many [6, 7]) .zip (.call "inner" (.cons (.var 4) .nil)) (.call "inner" (.cons (.var 5) .nil)) (.lit (.bl true)) (.tup (.cons (.var 6) (.cons (.var 7) .nil)))))
    .skip))
    .skip)
    .skip))
    .skip))))))
    (.seq (.ret (.var 2))
    .skip))))
def f_made_alike : Fn := ⟨"made_alike", ["one", "other", "filling", "left", "here", "there", "part", "its"], [.sh, .sh], b_made_alike⟩

def b__law_second : S := (.seq (.asg 5 false (.call "_law_term" (.cons (.call "_law_stream" (.cons (.var 1) (.cons (.lit (.int 10)) .nil))) (.cons (.var 3) (.cons (.var 4) (.cons (.lit (.int 6)) .nil))))))
    (.seq (.asg 6 false (.call "_law_places" (.cons (.var 0) .nil)))
    (.seq (.asg 7 false (.bin .idx (.var 6) (.bin .mod (.bin .fdiv (.var 2) (.lit (.int 7))) (.un .len (.var 6)))))
    (.seq (.asg 8 false (.bin .idx (.var 4) (.bin .mod (.bin .fdiv (.var 2) (.lit (.int 1001))) (.un .len (.var 4)))))
    (.seq (.ite (.bin .eq (.bin .mod (.var 2) (.lit (.int 4))) (.lit (.int 1)))
    (.seq (.ret (.call "_law_filled" (.cons (.var 0) (.cons (.dic1 (.var 8) (.call "_law_term" (.cons (.call "_law_stream" (.cons (.var 1) (.cons (.lit (.int 2)) .nil))) (.cons (.var 3) (.cons (.var 4) (.cons (.lit (.int 4)) .nil)))))) .nil))))
    .skip)
    .skip)
    (.seq (.ite (.bin .eq (.bin .mod (.var 2) (.lit (.int 4))) (.lit (.int 2)))
    (.seq (.ret (.call "_law_put" (.cons (.var 0) (.cons (.var 7) (.cons (.var 8) .nil)))))
    .skip)
    .skip)
    (.seq (.ite (.bin .eq (.bin .mod (.var 2) (.lit (.int 4))) (.lit (.int 3)))
    (.seq (.ret (.call "_law_put" (.cons (.var 0) (.cons (.var 7) (.cons (.bin .add (.tup (.cons (.bin .idx (.bin .idx (.var 3) (.un .neg (.lit (.int 1)))) (.lit (.int 0))) .nil)) (.bin .mul (.tup (.cons (.var 8) .nil)) (.bin .idx (.bin .idx (.var 3) (.un .neg (.lit (.int 1)))) (.lit (.int 1))))) .nil)))))
    .skip)
    .skip)
    (.seq (.ret (.var 5))
    .skip))))))))
def f__law_second : Fn := ⟨"_law_second", ["_law_one", "_law_cell_here", "_law_number", "_law_sorts_here", "_law_blanks_here", "_law_other", "_law_places_here", "_law_place", "_law_blank"], [.sh, .sh, .sh, .sh, .sh], b__law_second⟩

def b__law_rest : S := (.seq (.wh [0] fuel (.and (.un (.isK .str) (.var 0)) (.one (.bin .inn (.var 0) (.var 1))))
    (.seq (.asg 0 false (.bin .idx (.var 1) (.var 0)))
    .skip))
    (.seq (.ret (.var 0))
    .skip))
def f__law_rest : Fn := ⟨"_law_rest", ["_law_term_here", "_law_links"], [.sh, .sh], b__law_rest⟩

def b__law_stands : S := (.seq (.asg 1 false (.call "_law_rest" (.cons (.var 1) (.cons (.var 2) .nil))))
    (.seq (.ite (.un (.isK .str) (.var 1))
    (.seq (.ret (.bin .eq (.var 1) (.var 0)))
    .skip)
    .skip)
    (.seq (.for [] (.one 3) .seq (.sl (.var 1) (.lit (.int 1)) .nix) .nix
    (.seq (.ite (.call "_law_stands" (.cons (.var 0) (.cons (.var 3) (.cons (.var 2) .nil))))
    (.seq (.ret (.lit (.bl true)))
    .skip)
    .skip)
    .skip))
    (.seq (.ret (.lit (.bl false)))
    .skip))))
def f__law_stands : Fn := ⟨"_law_stands", ["_law_blank", "_law_term_here", "_law_links", "_law_part_here"], [.sh, .sh, .sh], b__law_stands⟩

def b__law_alike : S := (.seq (.asg 0 false (.lend 2 (.call "_law_rest" (.cons (.var 0) (.cons (.var 2) .nil)))))
    (.seq (.asg 1 false (.lend 2 (.call "_law_rest" (.cons (.var 1) (.cons (.var 2) .nil)))))
    (.seq (.ite (.and (.un (.isK .str) (.var 0)) (.and (.un (.isK .str) (.var 1)) (.one (.bin .eq (.var 0) (.var 1)))))
    (.seq (.ret (.lit (.bl true)))
    .skip)
    .skip)
    (.seq (.iteJ [0, 1] (.and (.not (.un (.isK .str) (.var 0))) (.one (.un (.isK .str) (.var 1))))
    (.seq (.asgP 0 1 (.var 1) (.var 0))
    .skip)
    .skip)
    (.seq (.ite (.un (.isK .str) (.var 0))
    (.seq (.ite (.lend 2 (.call "_law_stands" (.cons (.var 0) (.cons (.var 1) (.cons (.var 2) .nil)))))
    (.seq (.ret (.lit (.bl false)))
    .skip)
    .skip)
    (.seq (.setI 2 (.var 0) (.var 1))
    (.seq (.ret (.lit (.bl true)))
    .skip)))
    .skip)
    (.seq (.ite (.or (.bin .ne (.bin .idx (.var 0) (.lit (.int 0))) (.bin .idx (.var 1) (.lit (.int 0)))) (.one (.bin .ne (.un .len (.var 0)) (.un .len (.var 1)))))
    (.seq (.ret (.lit (.bl false)))
    .skip)
    .skip)
    (.seq (.for [2] (.one 3) .rng2 (.lit (.int 1)) (.un .len (.var 0))
    (.seq (.ite (.not (.call "_law_alike" (.cons (.bin .idx (.var 0) (.var 3)) (.cons (.bin .idx (.var 1) (.var 3)) (.cons (.mut 2) .nil)))))
    (.seq (.ret (.lit (.bl false)))
    .skip)
    .skip)
    .skip))
    (.seq (.ret (.lit (.bl true)))
    .skip))))))))
def f__law_alike : Fn := ⟨"_law_alike", ["_law_one", "_law_other", "_law_links", "_law_k"], [.sh, .sh, .mu], b__law_alike⟩

def b__law_good_k15 : S := (.seq (.ret (.bin .eq (.un .notNone (.call "made_alike" (.cons (.var 0) (.cons (.var 1) .nil)))) (.call "_law_alike" (.cons (.var 0) (.cons (.var 1) (.cons .dic0 .nil))))))
    .skip)
def f__law_good_k15 : Fn := ⟨"_law_good", ["_law_one", "_law_other"], [.sh, .sh], b__law_good_k15⟩

def b_law_k15 : S := (.seq (.asg 1 false (.call "_law_sorts" (.cons (.call "_law_cell" (.cons (.var 0) (.cons (.lit (.int 0)) .nil))) .nil)))
    (.seq (.asg 2 false (.call "_law_blanks" (.cons (.call "_law_cell" (.cons (.var 0) (.cons (.lit (.int 1)) .nil))) .nil)))
    (.seq (.asg 3 false (.bin .add (.bin .add (.lst (.cons (.lit (.int 1)) (.cons (.lit (.int 3)) (.cons (.lit (.int 5)) .nil)))) (.sl (.var 0) .nix (.lit (.int 20)))) (.lst (.cons (.lit (.int 7)) (.cons (.lit (.int 9)) .nil)))))
    (.seq (.for [] (.one 4) .rng (.bin .sub (.un .len (.var 3)) (.lit (.int 2))) .nix
    (.seq (.asg 5 false (.bin .mod (.bin .mul (.bin .idx (.var 3) (.bin .add (.var 4) (.lit (.int 2)))) (.lit (.int 1000000007))) (.lit (.int 2147483647))))
    (.seq (.asg 6 false (.call "_law_term" (.cons (.call "_law_stream" (.cons (.bin .idx (.var 3) (.var 4)) (.cons (.lit (.int 6)) .nil))) (.cons (.var 1) (.cons (.var 2) (.cons (.lit (.int 6)) .nil))))))
    (.seq (.asg 7 false (.call "_law_second" (.cons (.var 6) (.cons (.bin .idx (.var 3) (.bin .add (.var 4) (.lit (.int 1)))) (.cons (.var 5) (.cons (.var 1) (.cons (.var 2) .nil)))))))
    (.seq (.ite (.or (.not (.call "_law_good" (.cons (.var 6) (.cons (.var 7) .nil)))) (.one (.not (.call "_law_good" (.cons (.bin .idx (.var 2) (.bin .mod (.var 5) (.un .len (.var 2)))) (.cons (.var 7) .nil))))))
    (.seq (.ret (.lit (.bl false)))
    .skip)
    .skip)
    (.seq (.asg 8 false (.bin .lt (.bin .add (.call "_law_count" (.cons (.var 6) .nil)) (.call "_law_count" (.cons (.var 7) .nil))) (.lit (.int 16))))
    (.seq (.asg 9 false (.bin .idx (.bin .idx (.var 1) (.lit (.int 0))) (.lit (.int 0))))
    (.seq (.ite (.and (.var 8) (.one (.not (.call "_law_good" (.cons (.tup (.cons (.var 9) (.cons (.var 6) (.cons (.var 7) .nil)))) (.cons (.tup (.cons (.var 9) (.cons (.var 7) (.cons (.bin .idx (.var 2) (.lit (.int 0))) .nil)))) .nil))))))
    (.seq (.ret (.lit (.bl false)))
    .skip)
    .skip)
    .skip))))))))
    (.seq (.ret (.lit (.bl true)))
    .skip)))))
def f_law_k15 : Fn := ⟨"law", ["_law_script", "_law_sorts_here", "_law_blanks_here", "_law_cells", "_law_k", "_law_number", "_law_one", "_law_other", "_law_wide", "_law_word"], [.sh], b_law_k15⟩

def X_is_blank (C : CCalls) (term0 : D) : P (D × D) := oP (op1 (.isK .str) term0) fun z1 => .ok (z1, .non)
theorem x_is_blank (C : CCalls) (term0 : D) : runC C f_is_blank [term0] = X_is_blank C term0 := by kernel_rfl

def X_inner (C : CCalls) (term0 : D) : P (D × D) := (C "is_blank" [term0]).bind fun p1 => asB p1.1 fun b2 => bif b2 then .ok ((.lst []), .non)
  else oP (opSl term0 (some 1) none) fun z3 => oP (op1 .list z3) fun z4 => .ok (z4, .non)
theorem x_inner (C : CCalls) (term0 : D) : runC C f_inner [term0] = X_inner C term0 := by kernel_rfl

def X__law_cell (C : CCalls) (l_script0 l_k0 : D) : P (D × D) := oP (op1 .len l_script0) fun z1 => oP (op2 .lt l_k0 z1) fun z2 => asB z2 fun b3 => bif b3 then oP (op2 .idx l_script0 l_k0) fun z4 => .ok (z4, .non)
  else .ok ((.int 0), .non)
theorem x__law_cell (C : CCalls) (l_script0 l_k0 : D) : runC C f__law_cell [l_script0, l_k0] = X__law_cell C l_script0 l_k0 := by kernel_rfl

def X__law_words (C : CCalls) (l_cell_here0 : D) : P (D × D) := oP (op2 .mul l_cell_here0 (.int 1000000007)) fun z1 => oP (op2 .pow (.int 10) (.int 18)) fun z2 => oP (op2 .mod z1 z2) fun l_number3 => oP (op2 .mod l_number3 (.int 7)) fun z4 => optP (src1 .rng z4) fun xs5 => ifP (szOk xs5.length) (loop2 (fun l_number6 l_base7 l_k10 k11 => oP (op2 .fdiv l_number6 (.int 7)) fun z12 => oP (op2 .mod z12 (.int 26)) fun z13 => oP (op2 .idx (.str "abcdefghijklmnopqrstuvwxyz") z13) fun z14 => oP (op2 .add l_base7 z14) fun l_base15 => oP (op2 .fdiv l_number6 (.int 11)) fun l_number16 => k11 l_number16 l_base15)
  xs5 l_number3 (.str "") fun l_number8 l_base9 => oP (op2 .fdiv l_number8 (.int 7)) fun z17 => oP (op1 .len l_base9) fun z18 => oP (op2 .add z18 (.int 1)) fun z19 => oP (op2 .mod z17 z19) fun l_at20 => oP (op2 .mod l_number8 (.int 3)) fun z21 => oP (op2 .eq z21 (.int 0)) fun z22 => asB z22 fun b23 => bif b23 then optP (src1 .rng (.int 6)) fun xs24 => ifP (szOk xs24.length) (lc0 (fun x25 k26 => oP (op2 .mul x25 x25) fun z27 => oP (op2 .add (.int 3) z27) fun z28 => oP (op2 .fdiv l_number8 z28) fun z29 => oP (op2 .mod z29 (.int 26)) fun z30 => oP (op2 .idx (.str "abcdefghijklmnopqrstuvwxyz") z30) fun z31 => k26 (some z31) ) xs24  fun l32 => oP (op1 .join (.lst l32)) fun l_base33 => optP (src1 .rng (.int 5)) fun xs34 => ifP (szOk xs34.length) (lc0 (fun x35 k36 => oP (op2 .add x35 (.int 1)) fun z37 => asI z37 fun i38 => oP (opSl l_base33 none (some i38)) fun z39 => k36 (some z39) ) xs34  fun l40 => .ok ((.lst l40), .non)))
  else optP (src1 .rng (.int 5)) fun xs41 => ifP (szOk xs41.length) (lc0 (fun x42 k43 => asI l_at20 fun i44 => oP (opSl l_base9 none (some i44)) fun z45 => oP (op2 .fdiv l_number8 (.int 5)) fun z46 => oP (op2 .mul (.int 5) x42) fun z47 => oP (op2 .add z46 z47) fun z48 => oP (op2 .mod z48 (.int 26)) fun z49 => oP (op2 .idx (.str "abcdefghijklmnopqrstuvwxyz") z49) fun z50 => oP (op2 .add z45 z50) fun z51 => asI l_at20 fun i52 => oP (opSl l_base9 (some i52) none) fun z53 => oP (op2 .add z51 z53) fun z54 => k43 (some z54) ) xs41  fun l55 => .ok ((.lst l55), .non)))
theorem x__law_words (C : CCalls) (l_cell_here0 : D) : runC C f__law_words [l_cell_here0] = X__law_words C l_cell_here0 := by kernel_rfl

def X__law_sorts (C : CCalls) (l_cell_here0 : D) : P (D × D) := (C "_law_words" [l_cell_here0]).bind fun p1 => oP (op2 .fdiv l_cell_here0 (.int 3)) fun z2 => oP (op2 .mod z2 (.int 4)) fun z3 => oP (op2 .idx (.lst [(.lst [(.int 0), (.int 2), (.int 1), (.int 0), (.int 3)]), (.lst [(.int 0), (.int 1), (.int 2), (.int 2), (.int 0)]), (.lst [(.int 0), (.int 3), (.int 1), (.int 1), (.int 0)]), (.lst [(.int 0), (.int 2), (.int 0), (.int 1), (.int 1)])]) z3) fun l_counts4 => oP (op2 .fdiv l_cell_here0 (.int 12)) fun z5 => oP (op2 .mod z5 (.int 4)) fun z6 => oP (op2 .add (.int 2) z6) fun l_many7 => optP (src1 .rng l_many7) fun xs8 => ifP (szOk xs8.length) (lc0 (fun x9 k10 => oP (op2 .idx p1.1 x9) fun z11 => oP (op2 .idx l_counts4 x9) fun z12 => k10 (some (.tup [z11, z12])) ) xs8  fun l13 => .ok ((.lst l13), .non))
theorem x__law_sorts (C : CCalls) (l_cell_here0 : D) : runC C f__law_sorts [l_cell_here0] = X__law_sorts C l_cell_here0 := by kernel_rfl

def X__law_blanks (C : CCalls) (l_cell_here0 : D) : P (D × D) := oP (op2 .fdiv l_cell_here0 (.int 26)) fun z1 => oP (op2 .mod z1 (.int 4)) fun z2 => oP (op2 .add (.int 1) z2) fun z3 => optP (src1 .rng z3) fun xs4 => ifP (szOk xs4.length) (lc0 (fun x5 k6 => oP (op2 .mod l_cell_here0 (.int 26)) fun z7 => oP (op2 .mul (.int 7) x5) fun z8 => oP (op2 .add z7 z8) fun z9 => oP (op2 .mod z9 (.int 26)) fun z10 => oP (op2 .idx (.str "ABCDEFGHIJKLMNOPQRSTUVWXYZ") z10) fun z11 => k6 (some z11) ) xs4  fun l12 => .ok ((.lst l12), .non))
theorem x__law_blanks (C : CCalls) (l_cell_here0 : D) : runC C f__law_blanks [l_cell_here0] = X__law_blanks C l_cell_here0 := by kernel_rfl

def X__law_grown (C : CCalls) (l_row0 l_number0 l_sorts_here0 l_blanks_here0 l_most0 : D) : P (D × D) := oP (op1 .len l_sorts_here0) fun z1 => oP (op2 .mod l_number0 z1) fun z2 => oP (op2 .idx l_sorts_here0 z2) fun z3 => asTL z3 fun ds4 => un2 ds4 fun l_word5 l_many6 => oP (op2 .fdiv l_number0 (.int 20)) fun l_number7 => oP (op1 .len l_row0) fun z8 => oP (op2 .sub z8 l_many6) fun z9 => asI z9 fun i10 => oP (opSl l_row0 (some i10) none) fun l_last11 => optP (src1 .seq l_last11) fun xs12 => ifP (szOk xs12.length) (lc0 (fun x13 k14 => oP (op2 .idx x13 (.int 1)) fun z15 => k14 (some z15) ) xs12  fun l16 => oP (op1 .max0 (.lst l16)) fun l_nest17 => oP (op2 .gt l_many6 (.int 0)) fun z18 => asB z18 fun b19 => join1 (fun k20 => bif b19 then oP (op1 .len l_row0) fun z22 => oP (op2 .le l_many6 z22) fun z23 => asB z23 fun b24 => join1 (fun k25 => bif b24 then oP (op2 .lt l_nest17 l_most0) fun z27 => asB z27 fun b28 => join1 (fun k29 => bif b28 then oP (op2 .mod l_number7 (.int 4)) fun z31 => oP (op2 .gt z31 (.int 0)) fun z32 => k29 z32 else k29 (.bl false)) fun c30 => k25 c30 else k25 (.bl false)) fun c26 => k20 c26 else k20 (.bl false)) fun c21 => asB c21 fun b33 => bif b33 then oP (op1 .len l_row0) fun z34 => oP (op2 .sub z34 l_many6) fun z35 => asI z35 fun i36 => oP (opSl l_row0 none (some i36)) fun z37 => optP (src1 .seq l_last11) fun xs38 => ifP (szOk xs38.length) (lc0 (fun x39 k40 => oP (op2 .idx x39 (.int 0)) fun z41 => k40 (some z41) ) xs38  fun l42 => oP (op1 .tuple (.lst l42)) fun z43 => oP (op2 .add (.tup [l_word5]) z43) fun z44 => oP (op2 .add l_nest17 (.int 1)) fun z45 => oP (op2 .add z37 (.lst [(.lst [z44, z45])])) fun z46 => .ok (z46, .non))
  else oP (op2 .eq l_blanks_here0 (.lst [])) fun z47 => asB z47 fun b48 => join1 (fun k49 => bif b48 then k49 (.bl true) else oP (op2 .fdiv l_number7 (.int 4)) fun z51 => oP (op2 .mod z51 (.int 3)) fun z52 => oP (op2 .eq z52 (.int 0)) fun z53 => k49 z53) fun c50 => asB c50 fun b54 => bif b54 then oP (op2 .idx l_sorts_here0 (.int 0)) fun z55 => oP (op2 .idx z55 (.int 0)) fun z56 => oP (op2 .add l_row0 (.lst [(.lst [(.tup [z56]), (.int 1)])])) fun z57 => .ok (z57, .non)
  else oP (op2 .fdiv l_number7 (.int 12)) fun z58 => oP (op1 .len l_blanks_here0) fun z59 => oP (op2 .mod z58 z59) fun z60 => oP (op2 .idx l_blanks_here0 z60) fun z61 => oP (op2 .add l_row0 (.lst [(.lst [z61, (.int 1)])])) fun z62 => .ok (z62, .non))
theorem x__law_grown (C : CCalls) (l_row0 l_number0 l_sorts_here0 l_blanks_here0 l_most0 : D) : runC C f__law_grown [l_row0, l_number0, l_sorts_here0, l_blanks_here0, l_most0] = X__law_grown C l_row0 l_number0 l_sorts_here0 l_blanks_here0 l_most0 := by kernel_rfl

def X__law_count (C : CCalls) (l_term0 : D) : P (D × D) := oP (op1 (.isK .str) l_term0) fun z1 => asB z1 fun b2 => bif b2 then .ok ((.int 1), .non)
  else oP (opSl l_term0 (some 1) none) fun z3 => optP (src1 .seq z3) fun xs4 => ifP (szOk xs4.length) (lc0 (fun x5 k6 => (C "_law_count" [x5]).bind fun p7 => k6 (some p7.1) ) xs4  fun l8 => oP (op1 .sum (.lst l8)) fun z9 => oP (op2 .add (.int 1) z9) fun z10 => .ok (z10, .non))

def X_part_at (C : CCalls) (term0 place0 : D) : P (D × D) := optP (src1 .seq place0) fun xs1 => ifP (szOk xs1.length) (loop1 (fun here2 k4 k5 => (C "inner" [here2]).bind fun p6 => oP (op2 .le (.int 0) k4) fun z7 => asB z7 fun b8 => join1 (fun k9 => bif b8 then oP (op1 .len p6.1) fun z11 => oP (op2 .lt k4 z11) fun z12 => k9 z12 else k9 (.bl false)) fun c10 => asB c10 fun b13 => bif (!b13) then .stuck
  else oP (op2 .idx p6.1 k4) fun here14 => k5 here14)
  xs1 term0 fun here3 => .ok (here3, .non))

def X_with_part (C : CCalls) (term0 place0 new0 : D) : P (D × D) := oP (op2 .eq place0 (.tup [])) fun z1 => asB z1 fun b2 => bif b2 then .ok (new0, .non)
  else (C "inner" [term0]).bind fun p3 => ldP p3.1 (oP (op2 .idx place0 (.int 0)) fun z4 => oP (op2 .idx p3.1 z4) fun z5 => oP (opSl place0 (some 1) none) fun z6 => (C "with_part" [z5, z6, new0]).bind fun p7 => oP (op2 .idx place0 (.int 0)) fun z8 => setP p3.1 z8 p7.1 fun parts9 => oP (op2 .idx term0 (.int 0)) fun z10 => oP (op1 .tuple parts9) fun z11 => oP (op2 .add (.tup [z10]) z11) fun z12 => .ok (z12, .non))

def X_put_at (C : CCalls) (term0 place0 new0 : D) : P (D × D) := (C "part_at" [term0, place0]).bind fun p1 => (C "with_part" [term0, place0, new0]).bind fun p2 => .ok (p2.1, .non)

def X__law_purse (C : CCalls) (l_cell_here0 : D) : P (D × D) := oP (op2 .mod l_cell_here0 (.int 2147483647)) fun l_number1 => optP (src1 .rng (.int 16)) fun xs2 => ifP (szOk xs2.length) (loop2 (fun l_number3 l_found4 l_k7 k8 => oP (op2 .mul l_number3 l_number3) fun z9 => oP (op2 .mul (.int 48271) l_k7) fun z10 => oP (op2 .mul z10 l_k7) fun z11 => oP (op2 .add z9 z11) fun z12 => oP (op2 .add z12 l_k7) fun z13 => oP (op2 .add z13 (.int 3)) fun z14 => oP (op2 .mod z14 (.int 2147483629)) fun l_number15 => oP (op2 .mul l_found4 (.int 2147483587)) fun z16 => oP (op2 .mul l_number15 l_number15) fun z17 => oP (op2 .mod z17 (.int 2147483587)) fun z18 => oP (op2 .add z16 z18) fun l_found19 => k8 l_number15 l_found19)
  xs2 l_number1 (.int 1) fun l_number5 l_found6 => oP (op2 .mod l_cell_here0 (.int 2)) fun z20 => oP (op2 .eq z20 (.int 0)) fun z21 => asB z21 fun b22 => bif b22 then oP (op1 .abs l_cell_here0) fun z23 => oP (op2 .fdiv z23 (.int 2)) fun z24 => .ok ((.lst [z24, l_found6]), .non)
  else .ok ((.lst [(.int 0), l_found6]), .non))
theorem x__law_purse (C : CCalls) (l_cell_here0 : D) : runC C f__law_purse [l_cell_here0] = X__law_purse C l_cell_here0 := by kernel_rfl

def X__law_take (C : CCalls) (l_purse_here0 l_many0 : D) : P (D × D) := oP (op2 .idx l_purse_here0 (.int 0)) fun z1 => oP (op2 .eq z1 (.int 0)) fun z2 => oP (op1 .int z2) fun l_at3 => oP (op2 .idx l_purse_here0 l_at3) fun z4 => oP (op2 .mod z4 l_many0) fun l_found5 => oP (op2 .idx l_purse_here0 l_at3) fun z6 => oP (op2 .fdiv z6 l_many0) fun z7 => setP l_purse_here0 l_at3 z7 fun l_purse_here8 => .ok (l_found5, l_purse_here8)
theorem x__law_take (C : CCalls) (l_purse_here0 l_many0 : D) : runC C f__law_take [l_purse_here0, l_many0] = X__law_take C l_purse_here0 l_many0 := by kernel_rfl

def X__law_stream (C : CCalls) (l_cell_here0 l_many0 : D) : P (D × D) := (C "_law_purse" [l_cell_here0]).bind fun p1 => ldP p1.1 (optP (src1 .rng l_many0) fun xs2 => ifP (szOk xs2.length) (lc1 (fun l_purse_here3 x4 k5 => (C "_law_take" [l_purse_here3, (.int 4800)]).bind fun p6 => k5 (some p6.1) p6.2) xs2 p1.1 fun l7 l_purse_here8 => .ok ((.lst l7), .non)))
theorem x__law_stream (C : CCalls) (l_cell_here0 l_many0 : D) : runC C f__law_stream [l_cell_here0, l_many0] = X__law_stream C l_cell_here0 l_many0 := by kernel_rfl

def X__law_count_k02 (C : CCalls) (l_term_here0 : D) : P (D × D) := oP (op1 (.isK .str) l_term_here0) fun z1 => asB z1 fun b2 => bif b2 then .ok ((.int 1), .non)
  else oP (opSl l_term_here0 (some 1) none) fun z3 => optP (src1 .seq z3) fun xs4 => ifP (szOk xs4.length) (lc0 (fun x5 k6 => (C "_law_count" [x5]).bind fun p7 => k6 (some p7.1) ) xs4  fun l8 => oP (op1 .sum (.lst l8)) fun z9 => oP (op2 .add (.int 1) z9) fun z10 => .ok (z10, .non))
theorem x__law_count_k02 (C : CCalls) (l_term_here0 : D) : runC C f__law_count_k02 [l_term_here0] = X__law_count_k02 C l_term_here0 := by kernel_rfl

def X__law_term (C : CCalls) (l_numbers0 l_sorts_here0 l_blanks_here0 l_most0 : D) : P (D × D) := optP (src1 .seq l_numbers0) fun xs1 => ifP (szOk xs1.length) (loop1 (fun l_row2 l_number4 k5 => (C "_law_grown" [l_row2, l_number4, l_sorts_here0, l_blanks_here0, l_most0]).bind fun p6 => k5 p6.1)
  xs1 (.lst []) fun l_row3 => oP (op2 .idx l_row3 (.int 0)) fun z7 => oP (op2 .idx z7 (.int 0)) fun l_found8 => oP (opSl l_row3 (some 1) none) fun z9 => optP (src1 .seq z9) fun xs10 => ifP (szOk xs10.length) (loop1 (fun l_found11 l_one13 k14 => oP (op2 .idx l_one13 (.int 0)) fun z15 => (C "_law_count" [z15]).bind fun p16 => (C "_law_count" [l_found11]).bind fun p17 => oP (op2 .ge p16.1 p17.1) fun z18 => asB z18 fun b21 => join1 (fun k19 => bif b21 then oP (op2 .idx l_one13 (.int 0)) fun l_found22 => k19 l_found22 else k19 l_found11)
  fun l_found20 => k14 l_found20)
  xs10 l_found8 fun l_found12 => .ok (l_found12, .non)))
theorem x__law_term (C : CCalls) (l_numbers0 l_sorts_here0 l_blanks_here0 l_most0 : D) : runC C f__law_term [l_numbers0, l_sorts_here0, l_blanks_here0, l_most0] = X__law_term C l_numbers0 l_sorts_here0 l_blanks_here0 l_most0 := by kernel_rfl

def X__law_part (C : CCalls) (l_term_here0 l_place0 : D) : P (D × D) := optP (src1 .seq l_place0) fun xs1 => ifP (szOk xs1.length) (loop1 (fun l_term_here2 l_k4 k5 => oP (op2 .add (.int 1) l_k4) fun z6 => oP (op2 .idx l_term_here2 z6) fun l_term_here7 => k5 l_term_here7)
  xs1 l_term_here0 fun l_term_here3 => .ok (l_term_here3, .non))
theorem x__law_part (C : CCalls) (l_term_here0 l_place0 : D) : runC C f__law_part [l_term_here0, l_place0] = X__law_part C l_term_here0 l_place0 := by kernel_rfl

def X__law_places (C : CCalls) (l_term_here0 : D) : P (D × D) := oP (op1 (.isK .tup) l_term_here0) fun z1 => asB z1 fun b4 => join1 (fun k2 => bif b4 then oP (op1 .len l_term_here0) fun z5 => oP (op2 .sub z5 (.int 1)) fun z6 => optP (src1 .rng z6) fun xs7 => ifP (szOk xs7.length) (loop1 (fun l_found8 l_k10 k11 => oP (op2 .add (.int 1) l_k10) fun z12 => oP (op2 .idx l_term_here0 z12) fun z13 => (C "_law_places" [z13]).bind fun p14 => optP (src1 .seq p14.1) fun xs15 => ifP (szOk xs15.length) (lc0 (fun x16 k17 => oP (op2 .add (.tup [l_k10]) x16) fun z18 => k17 (some z18) ) xs15  fun l19 => oP (op2 .add l_found8 (.lst l19)) fun l_found20 => k11 l_found20))
  xs7 (.lst [(.tup [])]) fun l_found9 => k2 l_found9) else k2 (.lst [(.tup [])]))
  fun l_found3 => .ok (l_found3, .non)
theorem x__law_places (C : CCalls) (l_term_here0 : D) : runC C f__law_places [l_term_here0] = X__law_places C l_term_here0 := by kernel_rfl

def X__law_put (C : CCalls) (l_term_here0 l_place0 l_new0 : D) : P (D × D) := oP (op2 .eq l_place0 (.tup [])) fun z1 => asB z1 fun b2 => bif b2 then .ok (l_new0, .non)
  else oP (op2 .idx l_place0 (.int 0)) fun z3 => oP (op2 .add (.int 1) z3) fun l_k4 => asI l_k4 fun i5 => oP (opSl l_term_here0 none (some i5)) fun z6 => oP (op2 .idx l_term_here0 l_k4) fun z7 => oP (opSl l_place0 (some 1) none) fun z8 => (C "_law_put" [z7, z8, l_new0]).bind fun p9 => oP (op2 .add z6 (.tup [p9.1])) fun z10 => oP (op2 .add l_k4 (.int 1)) fun z11 => asI z11 fun i12 => oP (opSl l_term_here0 (some i12) none) fun z13 => oP (op2 .add z10 z13) fun z14 => .ok (z14, .non)
theorem x__law_put (C : CCalls) (l_term_here0 l_place0 l_new0 : D) : runC C f__law_put [l_term_here0, l_place0, l_new0] = X__law_put C l_term_here0 l_place0 l_new0 := by kernel_rfl

def X_blanks_of (C : CCalls) (term0 : D) : P (D × D) := (C "is_blank" [term0]).bind fun p1 => asB p1.1 fun b2 => bif b2 then .ok ((.lst [term0]), .non)
  else ldP (.lst []) ((C "inner" [term0]).bind fun p3 => optP (src1 .seq p3.1) fun xs4 => ifP (szOk xs4.length) (loop1 (fun found5 part7 k8 => (C "blanks_of" [part7]).bind fun p9 => optP (src1 .seq p9.1) fun xs10 => ifP (szOk xs10.length) (lc0 (fun x11 k12 => oP (op2 .nin x11 found5) fun z13 => asB z13 fun b14 => bif b14 then k12 (some x11)  else k12 (none) ) xs10  fun l15 => asL found5 fun l16 => ifP (szOk (l16.length + l15.length)) (k8 (.lst (l16 ++ l15)))))
  xs4 (.lst []) fun found6 => ldP found6 (.ok (found6, .non))))
theorem x_blanks_of (C : CCalls) (term0 : D) : runC C f_blanks_of [term0] = X_blanks_of C term0 := by kernel_rfl

def X_filled (C : CCalls) (term0 filling0 : D) : P (D × D) := (C "is_blank" [term0]).bind fun p1 => asB p1.1 fun b2 => bif b2 then asD filling0 fun d3 => ifP (!(!strK d3 || false)) (asS term0 fun s4 => .ok (((dget d3 (.str s4)).getD term0), .non))
  else oP (op2 .idx term0 (.int 0)) fun z5 => (C "inner" [term0]).bind fun p6 => optP (src1 .seq p6.1) fun xs7 => ifP (szOk xs7.length) (lc0 (fun x8 k9 => (C "filled" [x8, filling0]).bind fun p10 => k9 (some p10.1) ) xs7  fun l11 => oP (op1 .tuple (.lst l11)) fun z12 => oP (op2 .add (.tup [z5]) z12) fun z13 => .ok (z13, .non))
theorem x_filled (C : CCalls) (term0 filling0 : D) : runC C f_filled [term0, filling0] = X_filled C term0 filling0 := by kernel_rfl

def X__law_filled (C : CCalls) (l_term_here0 l_filling0 : D) : P (D × D) := oP (op1 (.isK .str) l_term_here0) fun z1 => asB z1 fun b2 => bif b2 then asD l_filling0 fun d3 => ifP (!(!strK d3 || false)) (asS l_term_here0 fun s4 => .ok (((dget d3 (.str s4)).getD l_term_here0), .non))
  else oP (opSl l_term_here0 none (some 1)) fun z5 => oP (opSl l_term_here0 (some 1) none) fun z6 => optP (src1 .seq z6) fun xs7 => ifP (szOk xs7.length) (lc0 (fun x8 k9 => (C "_law_filled" [x8, l_filling0]).bind fun p10 => k9 (some p10.1) ) xs7  fun l11 => oP (op1 .tuple (.lst l11)) fun z12 => oP (op2 .add z5 z12) fun z13 => .ok (z13, .non))

def X_fits_into (C : CCalls) (pattern0 term0 filling0 : D) : P (D × D) := (C "is_blank" [pattern0]).bind fun p1 => asB p1.1 fun b2 => bif b2 then asS pattern0 fun s3 => asD filling0 fun d4 => ifP (strK d4 && szOk (d4.length + 1)) (oP (op2 .eq ((dget d4 (.str s3)).getD term0) term0) fun z5 => .ok (z5, (.dic (sdp d4 (.str s3) term0))))
  else (C "is_blank" [term0]).bind fun p6 => asB p6.1 fun b7 => join1 (fun k8 => bif b7 then k8 (.bl true) else oP (op2 .idx pattern0 (.int 0)) fun z10 => oP (op2 .idx term0 (.int 0)) fun z11 => oP (op2 .ne z10 z11) fun z12 => asB z12 fun b13 => join1 (fun k14 => bif b13 then k14 (.bl true) else oP (op1 .len pattern0) fun z16 => oP (op1 .len term0) fun z17 => oP (op2 .ne z16 z17) fun z18 => k14 z18) fun c15 => k8 c15) fun c9 => asB c9 fun b19 => bif b19 then .ok ((.bl false), filling0)
  else (C "inner" [pattern0]).bind fun p20 => (C "inner" [term0]).bind fun p21 => optP (src2 .zip p20.1 p21.1) fun xs22 => ifP (szOk xs22.length) (loop1 (fun filling23 x25 k26 => asTL x25 fun ds27 => un2 ds27 fun one28 other29 => (C "fits_into" [one28, other29, filling23]).bind fun p30 => asB p30.1 fun b31 => bif (!b31) then .ok ((.bl false), p30.2)
  else k26 p30.2)
  xs22 filling0 fun filling24 => .ok ((.bl true), filling24))

def X_fits (C : CCalls) (pattern0 term0 : D) : P (D × D) := ldP (.dic []) ((C "fits_into" [pattern0, term0, (.dic [])]).bind fun p1 => asB p1.1 fun b2 => bif b2 then ldP p1.2 (.ok (p1.2, .non))
  else .ok (.non, .non))

def X__law_filled_k12 (C : CCalls) (l_term_here0 l_filling0 : D) : P (D × D) := oP (op1 (.isK .str) l_term_here0) fun z1 => asB z1 fun b2 => bif b2 then asD l_filling0 fun d3 => ifP (!(!strK d3 || false)) (asS l_term_here0 fun s4 => .ok (((dget d3 (.str s4)).getD l_term_here0), .non))
  else oP (opSl l_term_here0 none (some 1)) fun z5 => oP (opSl l_term_here0 (some 1) none) fun z6 => optP (src1 .seq z6) fun xs7 => ifP (szOk xs7.length) (lc0 (fun x8 k9 => (C "_law_filled" [x8, l_filling0]).bind fun p10 => k9 (some p10.1) ) xs7  fun l11 => oP (op1 .tuple (.lst l11)) fun z12 => oP (op2 .add z5 z12) fun z13 => .ok (z13, .non))
theorem x__law_filled_k12 (C : CCalls) (l_term_here0 l_filling0 : D) : runC C f__law_filled_k12 [l_term_here0, l_filling0] = X__law_filled_k12 C l_term_here0 l_filling0 := by kernel_rfl

def X__law_fits (C : CCalls) (l_pattern0 l_term_here0 l_filling0 : D) : P (D × D) := oP (op1 (.isK .str) l_pattern0) fun z1 => asB z1 fun b2 => bif b2 then oP (op2 .nin l_pattern0 l_filling0) fun z3 => asB z3 fun b6 => join1 (fun k4 => bif b6 then setP l_filling0 l_pattern0 l_term_here0 fun l_filling7 => k4 l_filling7 else k4 l_filling0)
  fun l_filling5 => oP (op2 .idx l_filling5 l_pattern0) fun z8 => oP (op2 .eq z8 l_term_here0) fun z9 => .ok (z9, l_filling5)
  else oP (op1 (.isK .str) l_term_here0) fun z10 => asB z10 fun b11 => join1 (fun k12 => bif b11 then k12 (.bl true) else oP (op2 .idx l_pattern0 (.int 0)) fun z14 => oP (op2 .idx l_term_here0 (.int 0)) fun z15 => oP (op2 .ne z14 z15) fun z16 => asB z16 fun b17 => join1 (fun k18 => bif b17 then k18 (.bl true) else oP (op1 .len l_pattern0) fun z20 => oP (op1 .len l_term_here0) fun z21 => oP (op2 .ne z20 z21) fun z22 => k18 z22) fun c19 => k12 c19) fun c13 => asB c13 fun b23 => bif b23 then .ok ((.bl false), l_filling0)
  else oP (op1 .len l_term_here0) fun z24 => optP (src2 .rng2 (.int 1) z24) fun xs25 => ifP (szOk xs25.length) (loop1 (fun l_filling26 l_k28 k29 => oP (op2 .idx l_pattern0 l_k28) fun z30 => oP (op2 .idx l_term_here0 l_k28) fun z31 => (C "_law_fits" [z30, z31, l_filling26]).bind fun p32 => asB p32.1 fun b33 => bif (!b33) then .ok ((.bl false), p32.2)
  else k29 p32.2)
  xs25 l_filling0 fun l_filling27 => .ok ((.bl true), l_filling27))

def X__law_blanks_of (C : CCalls) (l_term_here0 : D) : P (D × D) := oP (op1 (.isK .str) l_term_here0) fun z1 => asB z1 fun b2 => bif b2 then .ok ((.lst [l_term_here0]), .non)
  else oP (opSl l_term_here0 (some 1) none) fun z3 => optP (src1 .seq z3) fun xs4 => ifP (szOk xs4.length) (loop1 (fun l_found5 l_part_here7 k8 => (C "_law_blanks_of" [l_part_here7]).bind fun p9 => optP (src1 .seq p9.1) fun xs10 => ifP (szOk xs10.length) (lc0 (fun x11 k12 => oP (op2 .nin x11 l_found5) fun z13 => asB z13 fun b14 => bif b14 then k12 (some x11)  else k12 (none) ) xs10  fun l15 => oP (op2 .add l_found5 (.lst l15)) fun l_found16 => k8 l_found16))
  xs4 (.lst []) fun l_found6 => .ok (l_found6, .non))

def X__law_changed (C : CCalls) (l_term_here0 l_number0 l_new0 : D) : P (D × D) := (C "_law_places" [l_term_here0]).bind fun p1 => oP (op1 .len p1.1) fun z2 => oP (op2 .mod l_number0 z2) fun z3 => oP (op2 .idx p1.1 z3) fun z4 => (C "_law_put" [l_term_here0, z4, l_new0]).bind fun p5 => .ok (p5.1, .non)

def X_bound (C : CCalls) (filling0 blank0 term0 : D) : P (D × D) := ldP (.dic []) (asD filling0 fun d1 => optP (src1 .items (.dic d1)) fun xs2 => ifP (szOk xs2.length) (loop1 (fun found3 x5 k6 => asTL x5 fun ds7 => un2 ds7 fun key8 value9 => asS blank0 fun s10 => (C "filled" [value9, (.dic [(.str s10, term0)])]).bind fun p11 => setP found3 key8 p11.1 fun found12 => k6 found12)
  xs2 (.dic []) fun found4 => setP found4 blank0 term0 fun found13 => ldP found13 (.ok (found13, .non))))
theorem x_bound (C : CCalls) (filling0 blank0 term0 : D) : runC C f_bound [filling0, blank0, term0] = X_bound C filling0 blank0 term0 := by kernel_rfl

def X_made_alike (C : CCalls) (one0 other0 : D) : P (D × D) := ldP (.lst [(.tup [one0, other0])]) (wh2 (fun filling1 left2 again5 done6 => oP (op2 .ne left2 (.lst [])) fun z7 => asB z7 fun b8 => bif b8 then asL left2 fun l9 => optP (l9.getLast?) fun z10 => asTL z10 fun ds11 => un2 ds11 fun here12 there13 => (C "filled" [here12, filling1]).bind fun p14 => (C "filled" [there13, filling1]).bind fun p15 => (C "is_blank" [p15.1]).bind fun p16 => asB p16.1 fun b17 => join1 (fun k18 => bif b17 then (C "is_blank" [p14.1]).bind fun p20 => asB p20.1 fun b21 => k18 (.bl (!b21)) else k18 (.bl false)) fun c19 => asB c19 fun b25 => join2 (fun k22 => bif b25 then k22 p15.1 p14.1 else k22 p14.1 p15.1)
  fun here23 there24 => (C "is_blank" [here23]).bind fun p26 => asB p26.1 fun b27 => join1 (fun k28 => bif b27 then oP (op2 .ne here23 there24) fun z30 => k28 z30 else k28 (.bl false)) fun c29 => asB c29 fun b34 => join2 (fun k31 => bif b34 then (C "blanks_of" [there24]).bind fun p35 => oP (op2 .inn here23 p35.1) fun z36 => asB z36 fun b37 => bif b37 then .ok (.non, .non)
  else (C "bound" [filling1, here23, there24]).bind fun p38 => k31 p38.1 (.lst l9.dropLast) else (C "is_blank" [here23]).bind fun p39 => asB p39.1 fun b40 => join1 (fun k41 => bif (!b40) then oP (op2 .idx here23 (.int 0)) fun z43 => oP (op2 .idx there24 (.int 0)) fun z44 => oP (op2 .ne z43 z44) fun z45 => asB z45 fun b46 => join1 (fun k47 => bif b46 then k47 (.bl true) else oP (op1 .len here23) fun z49 => oP (op1 .len there24) fun z50 => oP (op2 .ne z49 z50) fun z51 => k47 z51) fun c48 => asB c48 fun b52 => bif b52 then .ok (.non, .non)
  else (C "inner" [here23]).bind fun p53 => (C "inner" [there24]).bind fun p54 => optP (src2 .zip p53.1 p54.1) fun xs55 => ifP (szOk xs55.length) (lc0 (fun x56 k57 => asTL x56 fun ds58 => un2 ds58 fun part59 its60 => k57 (some (.tup [part59, its60])) ) xs55  fun l61 => asL (.lst l9.dropLast) fun l62 => ifP (szOk (l62.length + l61.length)) (k41 (.lst (l62 ++ l61)))) else k41 (.lst l9.dropLast))
  fun left42 => k31 filling1 left42)
  fun filling32 left33 => again5 filling32 left33 else done6 filling1 left2)
  fuel (.dic []) (.lst [(.tup [one0, other0])]) fun filling3 left4 => .ok (filling3, .non))
theorem x_made_alike (C : CCalls) (one0 other0 : D) : runC C f_made_alike [one0, other0] = X_made_alike C one0 other0 := by kernel_rfl

def X__law_walks (C : CCalls) (l_one0 l_other0 l_found0 : D) : P (D × D) := (C "_law_blanks_of" [l_one0]).bind fun p1 => (C "_law_blanks_of" [l_other0]).bind fun p2 => oP (op2 .add p1.1 p2.1) fun l_blanks_here3 => oP (op1 (.isK .dic) l_found0) fun z4 => asB z4 fun b5 => join1 (fun k6 => bif (!b5) then k6 (.bl true) else (C "_law_filled" [l_one0, l_found0]).bind fun p8 => (C "_law_filled" [l_other0, l_found0]).bind fun p9 => oP (op2 .ne p8.1 p9.1) fun z10 => k6 z10) fun c7 => asB c7 fun b11 => bif b11 then .ok ((.bl false), .non)
  else asD l_found0 fun d12 => optP (src1 .keys (.dic d12)) fun xs13 => ifP (szOk xs13.length) (loop0 (fun l_blank14 k15 => oP (op2 .nin l_blank14 l_blanks_here3) fun z16 => asB z16 fun b17 => bif b17 then .ok ((.bl false), .non)
  else oP (op2 .idx l_found0 l_blank14) fun z18 => (C "_law_blanks_of" [z18]).bind fun p19 => optP (src1 .seq p19.1) fun xs20 => ifP (szOk xs20.length) (loop0 (fun l_its21 k22 => oP (op2 .nin l_its21 l_blanks_here3) fun z23 => asB z23 fun b24 => join1 (fun k25 => bif b24 then k25 (.bl true) else oP (op2 .inn l_its21 l_found0) fun z27 => k25 z27) fun c26 => asB c26 fun b28 => bif b28 then .ok ((.bl false), .non)
  else k22)
  xs20  ( k15)))
  xs13  ( .ok ((.bl true), .non)))

def X__law_second (C : CCalls) (l_one0 l_cell_here0 l_number0 l_sorts_here0 l_blanks_here0 : D) : P (D × D) := (C "_law_stream" [l_cell_here0, (.int 10)]).bind fun p1 => (C "_law_term" [p1.1, l_sorts_here0, l_blanks_here0, (.int 6)]).bind fun p2 => (C "_law_places" [l_one0]).bind fun p3 => oP (op2 .fdiv l_number0 (.int 7)) fun z4 => oP (op1 .len p3.1) fun z5 => oP (op2 .mod z4 z5) fun z6 => oP (op2 .idx p3.1 z6) fun l_place7 => oP (op2 .fdiv l_number0 (.int 1001)) fun z8 => oP (op1 .len l_blanks_here0) fun z9 => oP (op2 .mod z8 z9) fun z10 => oP (op2 .idx l_blanks_here0 z10) fun l_blank11 => oP (op2 .mod l_number0 (.int 4)) fun z12 => oP (op2 .eq z12 (.int 1)) fun z13 => asB z13 fun b14 => bif b14 then (C "_law_stream" [l_cell_here0, (.int 2)]).bind fun p15 => (C "_law_term" [p15.1, l_sorts_here0, l_blanks_here0, (.int 4)]).bind fun p16 => asS l_blank11 fun s17 => (C "_law_filled" [l_one0, (.dic [(.str s17, p16.1)])]).bind fun p18 => .ok (p18.1, .non)
  else oP (op2 .mod l_number0 (.int 4)) fun z19 => oP (op2 .eq z19 (.int 2)) fun z20 => asB z20 fun b21 => bif b21 then (C "_law_put" [l_one0, l_place7, l_blank11]).bind fun p22 => .ok (p22.1, .non)
  else oP (op2 .mod l_number0 (.int 4)) fun z23 => oP (op2 .eq z23 (.int 3)) fun z24 => asB z24 fun b25 => bif b25 then oP (op1 .neg (.int 1)) fun z26 => oP (op2 .idx l_sorts_here0 z26) fun z27 => oP (op2 .idx z27 (.int 0)) fun z28 => oP (op1 .neg (.int 1)) fun z29 => oP (op2 .idx l_sorts_here0 z29) fun z30 => oP (op2 .idx z30 (.int 1)) fun z31 => oP (op2 .mul (.tup [l_blank11]) z31) fun z32 => oP (op2 .add (.tup [z28]) z32) fun z33 => (C "_law_put" [l_one0, l_place7, z33]).bind fun p34 => .ok (p34.1, .non)
  else .ok (p2.1, .non)
theorem x__law_second (C : CCalls) (l_one0 l_cell_here0 l_number0 l_sorts_here0 l_blanks_here0 : D) : runC C f__law_second [l_one0, l_cell_here0, l_number0, l_sorts_here0, l_blanks_here0] = X__law_second C l_one0 l_cell_here0 l_number0 l_sorts_here0 l_blanks_here0 := by kernel_rfl

def X__law_good_k13 (C : CCalls) (l_one0 l_other0 : D) : P (D × D) := (C "made_alike" [l_one0, l_other0]).bind fun p1 => (C "made_alike" [l_other0, l_one0]).bind fun p2 => oP (op1 .isNone p1.1) fun z3 => asB z3 fun b4 => join1 (fun k5 => bif b4 then k5 (.bl true) else oP (op1 .isNone p2.1) fun z7 => k5 z7) fun c6 => asB c6 fun b8 => bif b8 then oP (op1 .isNone p1.1) fun z9 => asB z9 fun b10 => join1 (fun k11 => bif b10 then oP (op1 .isNone p2.1) fun z13 => k11 z13 else k11 (.bl false)) fun c12 => .ok (c12, .non)
  else (C "made_alike" [l_one0, l_other0]).bind fun p14 => oP (op2 .ne p14.1 p1.1) fun z15 => asB z15 fun b16 => bif b16 then .ok ((.bl false), .non)
  else (C "_law_walks" [l_one0, l_other0, p1.1]).bind fun p17 => asB p17.1 fun b18 => join1 (fun k19 => bif b18 then (C "_law_walks" [l_other0, l_one0, p2.1]).bind fun p21 => k19 p21.1 else k19 (.bl false)) fun c20 => .ok (c20, .non)

def X_law_k13 (C : CCalls) (l_script0 : D) : P (D × D) := (C "_law_cell" [l_script0, (.int 0)]).bind fun p1 => (C "_law_sorts" [p1.1]).bind fun p2 => (C "_law_cell" [l_script0, (.int 1)]).bind fun p3 => (C "_law_blanks" [p3.1]).bind fun p4 => optP (src1 .chars (.str "QJXZK")) fun xs5 => ifP (szOk xs5.length) (lc0 (fun x6 k7 => oP (op2 .nin x6 p4.1) fun z8 => asB z8 fun b9 => bif b9 then k7 (some x6)  else k7 (none) ) xs5  fun l10 => oP (op2 .idx (.lst l10) (.int 0)) fun l_spare11 => oP (opSl l_script0 none (some 20)) fun z12 => oP (op2 .add (.lst [(.int 1), (.int 3), (.int 5)]) z12) fun z13 => oP (op2 .add z13 (.lst [(.int 7), (.int 9)])) fun l_cells14 => oP (op1 .len l_cells14) fun z15 => oP (op2 .sub z15 (.int 2)) fun z16 => optP (src1 .rng z16) fun xs17 => ifP (szOk xs17.length) (loop0 (fun l_k18 k19 => oP (op2 .add l_k18 (.int 2)) fun z20 => oP (op2 .idx l_cells14 z20) fun z21 => oP (op2 .mul z21 (.int 1000000007)) fun z22 => oP (op2 .mod z22 (.int 2147483647)) fun l_number23 => oP (op2 .idx l_cells14 l_k18) fun z24 => (C "_law_stream" [z24, (.int 6)]).bind fun p25 => (C "_law_term" [p25.1, p2.1, p4.1, (.int 6)]).bind fun p26 => oP (op2 .add l_k18 (.int 1)) fun z27 => oP (op2 .idx l_cells14 z27) fun z28 => (C "_law_second" [p26.1, z28, l_number23, p2.1, p4.1]).bind fun p29 => (C "_law_good" [p26.1, p29.1]).bind fun p30 => asB p30.1 fun b31 => join1 (fun k32 => bif (!b31) then k32 (.bl true) else (C "_law_good" [l_spare11, p29.1]).bind fun p34 => asB p34.1 fun b35 => k32 (.bl (!b35))) fun c33 => asB c33 fun b36 => bif b36 then .ok ((.bl false), .non)
  else (C "made_alike" [p26.1, p26.1]).bind fun p37 => oP (op1 .isNone p37.1) fun z38 => asB z38 fun b39 => join1 (fun k40 => bif b39 then k40 (.bl true) else (C "made_alike" [l_spare11, p29.1]).bind fun p42 => oP (op1 .isNone p42.1) fun z43 => k40 z43) fun c41 => asB c41 fun b44 => bif b44 then .ok ((.bl false), .non)
  else k19)
  xs17  ( .ok ((.bl true), .non))))

def X__law_rest (C : CCalls) (l_term_here0 l_links0 : D) : P (D × D) := wh1 (fun l_term_here1 again3 done4 => oP (op1 (.isK .str) l_term_here1) fun z5 => asB z5 fun b6 => join1 (fun k7 => bif b6 then oP (op2 .inn l_term_here1 l_links0) fun z9 => k7 z9 else k7 (.bl false)) fun c8 => asB c8 fun b10 => bif b10 then oP (op2 .idx l_links0 l_term_here1) fun l_term_here11 => again3 l_term_here11 else done4 l_term_here1)
  fuel l_term_here0 fun l_term_here2 => .ok (l_term_here2, .non)
theorem x__law_rest (C : CCalls) (l_term_here0 l_links0 : D) : runC C f__law_rest [l_term_here0, l_links0] = X__law_rest C l_term_here0 l_links0 := by kernel_rfl

def X__law_stands (C : CCalls) (l_blank0 l_term_here0 l_links0 : D) : P (D × D) := (C "_law_rest" [l_term_here0, l_links0]).bind fun p1 => oP (op1 (.isK .str) p1.1) fun z2 => asB z2 fun b3 => bif b3 then oP (op2 .eq p1.1 l_blank0) fun z4 => .ok (z4, .non)
  else oP (opSl p1.1 (some 1) none) fun z5 => optP (src1 .seq z5) fun xs6 => ifP (szOk xs6.length) (loop0 (fun l_part_here7 k8 => (C "_law_stands" [l_blank0, l_part_here7, l_links0]).bind fun p9 => asB p9.1 fun b10 => bif b10 then .ok ((.bl true), .non)
  else k8)
  xs6  ( .ok ((.bl false), .non)))
theorem x__law_stands (C : CCalls) (l_blank0 l_term_here0 l_links0 : D) : runC C f__law_stands [l_blank0, l_term_here0, l_links0] = X__law_stands C l_blank0 l_term_here0 l_links0 := by kernel_rfl

def X__law_alike (C : CCalls) (l_one0 l_other0 l_links0 : D) : P (D × D) := (C "_law_rest" [l_one0, l_links0]).bind fun p1 => ifP (D.pure p1.1) ((C "_law_rest" [l_other0, l_links0]).bind fun p2 => ifP (D.pure p2.1) (oP (op1 (.isK .str) p1.1) fun z3 => asB z3 fun b4 => join1 (fun k5 => bif b4 then oP (op1 (.isK .str) p2.1) fun z7 => asB z7 fun b8 => join1 (fun k9 => bif b8 then oP (op2 .eq p1.1 p2.1) fun z11 => k9 z11 else k9 (.bl false)) fun c10 => k5 c10 else k5 (.bl false)) fun c6 => asB c6 fun b12 => bif b12 then .ok ((.bl true), l_links0)
  else oP (op1 (.isK .str) p1.1) fun z13 => asB z13 fun b14 => join1 (fun k15 => bif (!b14) then oP (op1 (.isK .str) p2.1) fun z17 => k15 z17 else k15 (.bl false)) fun c16 => asB c16 fun b21 => join2 (fun k18 => bif b21 then k18 p2.1 p1.1 else k18 p1.1 p2.1)
  fun l_one19 l_other20 => oP (op1 (.isK .str) l_one19) fun z22 => asB z22 fun b23 => bif b23 then (C "_law_stands" [l_one19, l_other20, l_links0]).bind fun p24 => ifP (D.pure p24.1) (asB p24.1 fun b25 => bif b25 then .ok ((.bl false), l_links0)
  else setP l_links0 l_one19 l_other20 fun l_links26 => .ok ((.bl true), l_links26))
  else oP (op2 .idx l_one19 (.int 0)) fun z27 => oP (op2 .idx l_other20 (.int 0)) fun z28 => oP (op2 .ne z27 z28) fun z29 => asB z29 fun b30 => join1 (fun k31 => bif b30 then k31 (.bl true) else oP (op1 .len l_one19) fun z33 => oP (op1 .len l_other20) fun z34 => oP (op2 .ne z33 z34) fun z35 => k31 z35) fun c32 => asB c32 fun b36 => bif b36 then .ok ((.bl false), l_links0)
  else oP (op1 .len l_one19) fun z37 => optP (src2 .rng2 (.int 1) z37) fun xs38 => ifP (szOk xs38.length) (loop1 (fun l_links39 l_k41 k42 => oP (op2 .idx l_one19 l_k41) fun z43 => oP (op2 .idx l_other20 l_k41) fun z44 => (C "_law_alike" [z43, z44, l_links39]).bind fun p45 => asB p45.1 fun b46 => bif (!b46) then .ok ((.bl false), p45.2)
  else k42 p45.2)
  xs38 l_links0 fun l_links40 => .ok ((.bl true), l_links40))))
theorem x__law_alike (C : CCalls) (l_one0 l_other0 l_links0 : D) : runC C f__law_alike [l_one0, l_other0, l_links0] = X__law_alike C l_one0 l_other0 l_links0 := by kernel_rfl

def X__law_good_k15 (C : CCalls) (l_one0 l_other0 : D) : P (D × D) := (C "made_alike" [l_one0, l_other0]).bind fun p1 => oP (op1 .notNone p1.1) fun z2 => (C "_law_alike" [l_one0, l_other0, (.dic [])]).bind fun p3 => oP (op2 .eq z2 p3.1) fun z4 => .ok (z4, .non)
theorem x__law_good_k15 (C : CCalls) (l_one0 l_other0 : D) : runC C f__law_good_k15 [l_one0, l_other0] = X__law_good_k15 C l_one0 l_other0 := by kernel_rfl

def X_law_k15 (C : CCalls) (l_script0 : D) : P (D × D) := (C "_law_cell" [l_script0, (.int 0)]).bind fun p1 => (C "_law_sorts" [p1.1]).bind fun p2 => (C "_law_cell" [l_script0, (.int 1)]).bind fun p3 => (C "_law_blanks" [p3.1]).bind fun p4 => oP (opSl l_script0 none (some 20)) fun z5 => oP (op2 .add (.lst [(.int 1), (.int 3), (.int 5)]) z5) fun z6 => oP (op2 .add z6 (.lst [(.int 7), (.int 9)])) fun l_cells7 => oP (op1 .len l_cells7) fun z8 => oP (op2 .sub z8 (.int 2)) fun z9 => optP (src1 .rng z9) fun xs10 => ifP (szOk xs10.length) (loop0 (fun l_k11 k12 => oP (op2 .add l_k11 (.int 2)) fun z13 => oP (op2 .idx l_cells7 z13) fun z14 => oP (op2 .mul z14 (.int 1000000007)) fun z15 => oP (op2 .mod z15 (.int 2147483647)) fun l_number16 => oP (op2 .idx l_cells7 l_k11) fun z17 => (C "_law_stream" [z17, (.int 6)]).bind fun p18 => (C "_law_term" [p18.1, p2.1, p4.1, (.int 6)]).bind fun p19 => oP (op2 .add l_k11 (.int 1)) fun z20 => oP (op2 .idx l_cells7 z20) fun z21 => (C "_law_second" [p19.1, z21, l_number16, p2.1, p4.1]).bind fun p22 => (C "_law_good" [p19.1, p22.1]).bind fun p23 => asB p23.1 fun b24 => join1 (fun k25 => bif (!b24) then k25 (.bl true) else oP (op1 .len p4.1) fun z27 => oP (op2 .mod l_number16 z27) fun z28 => oP (op2 .idx p4.1 z28) fun z29 => (C "_law_good" [z29, p22.1]).bind fun p30 => asB p30.1 fun b31 => k25 (.bl (!b31))) fun c26 => asB c26 fun b32 => bif b32 then .ok ((.bl false), .non)
  else (C "_law_count" [p19.1]).bind fun p33 => (C "_law_count" [p22.1]).bind fun p34 => oP (op2 .add p33.1 p34.1) fun z35 => oP (op2 .lt z35 (.int 16)) fun l_wide36 => oP (op2 .idx p2.1 (.int 0)) fun z37 => oP (op2 .idx z37 (.int 0)) fun l_word38 => asB l_wide36 fun b39 => join1 (fun k40 => bif b39 then oP (op2 .idx p4.1 (.int 0)) fun z42 => (C "_law_good" [(.tup [l_word38, p19.1, p22.1]), (.tup [l_word38, p22.1, z42])]).bind fun p43 => asB p43.1 fun b44 => k40 (.bl (!b44)) else k40 (.bl false)) fun c41 => asB c41 fun b45 => bif b45 then .ok ((.bl false), .non)
  else k12)
  xs10  ( .ok ((.bl true), .non)))
theorem x_law_k15 (C : CCalls) (l_script0 : D) : runC C f_law_k15 [l_script0] = X_law_k15 C l_script0 := by kernel_rfl

end
end Sh
end

section
set_option Elab.async false
set_option linter.all false
set_option maxRecDepth 100000
set_option maxHeartbeats 1000000
namespace Pu
open En PySem

/-! ### steps of the plain evaluator -/
section
variable {β : Type}
theorem p_addI {i j : Int} {K : D → P β} : oP (op2 .add (.int i) (.int j)) K = K (.int (i + j)) := Eq.trans rfl rfl
theorem p_subI {i j : Int} {K : D → P β} : oP (op2 .sub (.int i) (.int j)) K = K (.int (i - j)) := Eq.trans rfl rfl
theorem p_mul {i j : Int} {K : D → P β} (h : mulOk i j = true) : oP (op2 .mul (.int i) (.int j)) K = K (.int (i * j)) := by
  have : op2 .mul (.int i) (.int j) = some (.sh, .int (i * j)) := if_pos h
  rw [this]; rfl
theorem p_div {i j : Int} {K : D → P β} (h : divOk j = true) : oP (op2 .fdiv (.int i) (.int j)) K = K (.int (i / j)) := by
  have : op2 .fdiv (.int i) (.int j) = some (.sh, .int (i / j)) := if_pos h
  rw [this]; rfl
theorem p_mod {i j : Int} {K : D → P β} (h : 0 < j) : oP (op2 .mod (.int i) (.int j)) K = K (.int (i % j)) := by
  have : op2 .mod (.int i) (.int j) = some (.sh, .int (i % j)) := if_pos (decide_eq_true h)
  rw [this]; rfl
theorem p_pow {i j : Int} {K : D → P β} (h : powOk i j = true) : oP (op2 .pow (.int i) (.int j)) K = K (.int (i ^ j.toNat)) := by
  have : op2 .pow (.int i) (.int j) = some (.sh, .int (i ^ j.toNat)) := if_pos h
  rw [this]; rfl
theorem p_lt {i j : Int} {K : D → P β} : oP (op2 .lt (.int i) (.int j)) K = K (.bl (decide (i < j))) := Eq.trans rfl rfl
theorem p_le {i j : Int} {K : D → P β} : oP (op2 .le (.int i) (.int j)) K = K (.bl (decide (i ≤ j))) := Eq.trans rfl rfl
theorem p_gt {i j : Int} {K : D → P β} : oP (op2 .gt (.int i) (.int j)) K = K (.bl (decide (j < i))) := Eq.trans rfl rfl
theorem p_geI {i j : Int} {K : D → P β} : oP (op2 .ge (.int i) (.int j)) K = K (.bl (decide (j ≤ i))) := Eq.trans rfl rfl
theorem p_max {i j : Int} {K : D → P β} : oP (op2 .max (.int i) (.int j)) K = K (.int (maxI i j)) := Eq.trans rfl rfl
theorem p_min {i j : Int} {K : D → P β} : oP (op2 .min (.int i) (.int j)) K = K (.int (minI i j)) := Eq.trans rfl rfl
theorem p_neg {i : Int} {K : D → P β} : oP (op1 .neg (.int i)) K = K (.int (-i)) := Eq.trans rfl rfl
theorem p_abs {i : Int} {K : D → P β} : oP (op1 .abs (.int i)) K = K (.int (if i < 0 then -i else i)) := Eq.trans rfl rfl
theorem p_intI {i : Int} {K : D → P β} : oP (op1 .int (.int i)) K = K (.int i) := Eq.trans rfl rfl
theorem p_intB {b : Bool} {K : D → P β} : oP (op1 .int (.bl b)) K = K (.int (if b then 1 else 0)) := Eq.trans rfl rfl
theorem p_lenL {ds : List D} {K : D → P β} : oP (op1 .len (.lst ds)) K = K (.int ds.length) := Eq.trans rfl rfl
theorem p_lenT {ds : List D} {K : D → P β} : oP (op1 .len (.tup ds)) K = K (.int ds.length) := Eq.trans rfl rfl
theorem p_lenS {x : Str} {K : D → P β} (h : x.length ≤ sizeLine) : oP (op1 .len (.str x)) K = K (.int x.length) := by
  have : op1 .len (.str x) = some (.sh, .int x.length) := if_pos h
  rw [this]; rfl
theorem p_listL {ds : List D} {K : D → P β} : oP (op1 .list (.lst ds)) K = K (.lst ds) := Eq.trans rfl rfl
theorem p_listT {ds : List D} {K : D → P β} : oP (op1 .list (.tup ds)) K = K (.lst ds) := Eq.trans rfl rfl
theorem p_tupL {ds : List D} {K : D → P β} : oP (op1 .tuple (.lst ds)) K = K (.tup ds) := Eq.trans rfl rfl
theorem p_tupT {ds : List D} {K : D → P β} : oP (op1 .tuple (.tup ds)) K = K (.tup ds) := Eq.trans rfl rfl
theorem p_sum {ds : List D} {ns : List Int} {K : D → P β} (h : ints? ds = some ns) : oP (op1 .sum (.lst ds)) K = K (.int ns.sum) := by
  have : op1 .sum (.lst ds) = some (.sh, .int ns.sum) := by show (ints? ds).map _ = _; rw [h]; rfl
  rw [this]; rfl
theorem p_all {ds : List D} {ns : List Bool} {K : D → P β} (h : bls? ds = some ns) : oP (op1 .all (.lst ds)) K = K (.bl (ns.all id)) := by
  have : op1 .all (.lst ds) = some (.sh, .bl (ns.all id)) := by show (bls? ds).map _ = _; rw [h]; rfl
  rw [this]; rfl
theorem p_join {ds : List D} {xs : List Str} {K : D → P β} (h : strs? ds = some xs) (hl : lenAll xs ≤ 16777216) : oP (op1 .join (.lst ds)) K = K (.str (joinS xs)) := by
  have : op1 .join (.lst ds) = some (.sh, .str (joinS xs)) := by show (strs? ds).bind _ = _; rw [h]; exact if_pos hl
  rw [this]; rfl
theorem p_isS_S {x : Str} {K : D → P β} : oP (op1 (.isK .str) (.str x)) K = K (.bl true) := Eq.trans rfl rfl
theorem p_isS_T {ds : List D} {K : D → P β} : oP (op1 (.isK .str) (.tup ds)) K = K (.bl false) := Eq.trans rfl rfl
theorem p_isD_D {kvs : List (D × D)} {K : D → P β} (h : strK kvs = true) : oP (op1 (.isK .dic) (.dic kvs)) K = K (.bl true) := by
  have : op1 (.isK .dic) (.dic kvs) = some (.sh, .bl true) := by show (if strK kvs = true then some (Kd.dic == Kd.dic) else none).map _ = _; rw [h]; rfl
  rw [this]; rfl
theorem p_isD_N {K : D → P β} : oP (op1 (.isK .dic) .non) K = K (.bl false) := Eq.trans rfl rfl
theorem p_isN_N {K : D → P β} : oP (op1 .isNone .non) K = K (.bl true) := Eq.trans rfl rfl
theorem p_isN_D {kvs : List (D × D)} {K : D → P β} : oP (op1 .isNone (.dic kvs)) K = K (.bl false) := Eq.trans rfl rfl
theorem p_isN_S {x : Str} {K : D → P β} : oP (op1 .isNone (.str x)) K = K (.bl false) := Eq.trans rfl rfl
theorem p_isN_T {ds : List D} {K : D → P β} : oP (op1 .isNone (.tup ds)) K = K (.bl false) := Eq.trans rfl rfl
theorem p_isN_L {ds : List D} {K : D → P β} : oP (op1 .isNone (.lst ds)) K = K (.bl false) := Eq.trans rfl rfl
theorem p_nN_N {K : D → P β} : oP (op1 .notNone .non) K = K (.bl false) := Eq.trans rfl rfl
theorem p_nN_D {kvs : List (D × D)} {K : D → P β} : oP (op1 .notNone (.dic kvs)) K = K (.bl true) := Eq.trans rfl rfl
theorem p_nN_S {x : Str} {K : D → P β} : oP (op1 .notNone (.str x)) K = K (.bl true) := Eq.trans rfl rfl
theorem p_nN_T {ds : List D} {K : D → P β} : oP (op1 .notNone (.tup ds)) K = K (.bl true) := Eq.trans rfl rfl
theorem p_nN_L {ds : List D} {K : D → P β} : oP (op1 .notNone (.lst ds)) K = K (.bl true) := Eq.trans rfl rfl
theorem p_dict {kvs : List (D × D)} {K : D → P β} (h : strK kvs = true) : oP (op1 .dict (.dic kvs)) K = K (.dic kvs) := by
  have : op1 .dict (.dic kvs) = some (.fr, .dic kvs) := if_pos h
  rw [this]; rfl
theorem p_lenD {kvs : List (D × D)} {K : D → P β} (h : strK kvs = true) : oP (op1 .len (.dic kvs)) K = K (.int kvs.length) := by
  have : op1 .len (.dic kvs) = some (.sh, .int kvs.length) := if_pos h
  rw [this]; rfl
theorem p_addS {x y : Str} {K : D → P β} (h : szOk (x.length + y.length) = true) : oP (op2 .add (.str x) (.str y)) K = K (.str (x ++ y)) := by
  have : op2 .add (.str x) (.str y) = some (.sh, .str (x ++ y)) := if_pos h
  rw [this]; rfl
theorem p_addL {x y : List D} {K : D → P β} (h : szOk (x.length + y.length) = true) : oP (op2 .add (.lst x) (.lst y)) K = K (.lst (x ++ y)) := by
  have : op2 .add (.lst x) (.lst y) = some (.fr, .lst (x ++ y)) := if_pos h
  rw [this]; rfl
theorem p_addT {x y : List D} {K : D → P β} (h : szOk (x.length + y.length) = true) : oP (op2 .add (.tup x) (.tup y)) K = K (.tup (x ++ y)) := by
  have : op2 .add (.tup x) (.tup y) = some (.sh, .tup (x ++ y)) := if_pos h
  rw [this]; rfl
theorem p_idxL {xs : List D} {i : Int} {d : D} {K : D → P β} (h : L2.atI xs i = some d) : oP (op2 .idx (.lst xs) (.int i)) K = K d := by
  have : op2 .idx (.lst xs) (.int i) = some (.sh, d) := by show (L2.atI xs i).map _ = _; rw [h]; rfl
  rw [this]; rfl
theorem p_idxT {xs : List D} {i : Int} {d : D} {K : D → P β} (h : L2.atI xs i = some d) : oP (op2 .idx (.tup xs) (.int i)) K = K d := by
  have : op2 .idx (.tup xs) (.int i) = some (.sh, d) := by show (L2.atI xs i).map _ = _; rw [h]; rfl
  rw [this]; rfl
theorem p_idxS {x : Str} {i : Int} {c : Nat} {K : D → P β} (hl : szOk x.length = true) (h : L2.atI x.cps.toList i = some c) : oP (op2 .idx (.str x) (.int i)) K = K (.str ⟨#[c]⟩) := by
  have : op2 .idx (.str x) (.int i) = some (.sh, .str ⟨#[c]⟩) := by
    show (if szOk x.length then (L2.atI x.cps.toList i).map fun c => ((Md.sh, D.str ⟨#[c]⟩) : Val) else none) = _
    rw [if_pos hl, h]; rfl
  rw [this]; rfl
theorem at1 {α : Type} {x y : α} {xs : List α} : L2.atI (x :: y :: xs) 1 = some y := by
  unfold L2.atI L2.ixN
  rw [if_pos (by decide), if_pos (by simp; omega)]; rfl
theorem at2 {α : Type} {x y z : α} {xs : List α} : L2.atI (x :: y :: z :: xs) 2 = some z := by
  unfold L2.atI L2.ixN
  rw [if_pos (by decide), if_pos (by simp; omega)]; rfl
theorem p_idx0L {x : D} {xs : List D} {K : D → P β} : oP (op2 .idx (.lst (x :: xs)) (.int 0)) K = K x := p_idxL (by simp [L2.atI, L2.ixN])
theorem p_idx0T {x : D} {xs : List D} {K : D → P β} : oP (op2 .idx (.tup (x :: xs)) (.int 0)) K = K x := p_idxT (by simp [L2.atI, L2.ixN])
theorem p_idx1L {x y : D} {xs : List D} {K : D → P β} : oP (op2 .idx (.lst (x :: y :: xs)) (.int 1)) K = K y := p_idxL at1
theorem p_idx1T {x y : D} {xs : List D} {K : D → P β} : oP (op2 .idx (.tup (x :: y :: xs)) (.int 1)) K = K y := p_idxT at1
theorem p_idx2T {x y z : D} {xs : List D} {K : D → P β} : oP (op2 .idx (.tup (x :: y :: z :: xs)) (.int 2)) K = K z := p_idxT at2
theorem p_idx2L {x y z : D} {xs : List D} {K : D → P β} : oP (op2 .idx (.lst (x :: y :: z :: xs)) (.int 2)) K = K z := p_idxL at2
theorem p_slL {xs : List D} {l h : Option Int} {K : D → P β} : oP (opSl (.lst xs) l h) K = K (.lst (cut xs l h)) := Eq.trans rfl rfl
theorem p_slT {xs : List D} {l h : Option Int} {K : D → P β} : oP (opSl (.tup xs) l h) K = K (.tup (cut xs l h)) := Eq.trans rfl rfl
theorem p_slS {x : Str} {l h : Option Int} {K : D → P β} (hl : szOk x.length = true) : oP (opSl (.str x) l h) K = K (.str ⟨(cut x.cps.toList l h).toArray⟩) := by
  have : opSl (.str x) l h = some (.sh, .str ⟨(cut x.cps.toList l h).toArray⟩) := if_pos hl
  rw [this]; rfl
theorem p_B {b : Bool} {K : Bool → P β} : asB (.bl b) K = K b := Eq.trans rfl rfl
theorem p_I {b : Int} {K : Int → P β} : asI (.int b) K = K b := Eq.trans rfl rfl
theorem p_S {b : Str} {K : Str → P β} : asS (.str b) K = K b := Eq.trans rfl rfl
theorem p_L {b : List D} {K : List D → P β} : asL (.lst b) K = K b := Eq.trans rfl rfl
theorem p_T {b : List D} {K : List D → P β} : asT (.tup b) K = K b := Eq.trans rfl rfl
theorem p_TLt {b : List D} {K : List D → P β} : asTL (.tup b) K = K b := Eq.trans rfl rfl
theorem p_TLl {b : List D} {K : List D → P β} : asTL (.lst b) K = K b := Eq.trans rfl rfl
theorem p_D {b : List (D × D)} {K : List (D × D) → P β} : asD (.dic b) K = K b := Eq.trans rfl rfl
theorem p_ldL {b : List D} {K : P β} : ldP (.lst b) K = K := Eq.trans rfl rfl
theorem p_ldD {b : List (D × D)} {K : P β} : ldP (.dic b) K = K := Eq.trans rfl rfl
theorem p_if {b : Bool} {K : P β} (h : b = true) : ifP b K = K := by rw [h]; rfl
theorem p_seqL {ds : List D} {K : List D → P β} : optP (src1 .seq (.lst ds)) K = K ds := Eq.trans rfl rfl
theorem p_seqT {ds : List D} {K : List D → P β} : optP (src1 .seq (.tup ds)) K = K ds := Eq.trans rfl rfl
theorem p_rng {n : Int} {K : List D → P β} (h1 : -(2 ^ 62) ≤ n) (h2 : n < 2 ^ 62) : optP (src1 .rng (.int n)) K = K (rangeD 0 n.toNat) := by
  have : src1 .rng (.int n) = some (rangeD 0 n.toNat) := by show (if _ then _ else _) = _; rw [decide_eq_true h1, decide_eq_true h2]; rfl
  rw [this]; rfl
theorem p_rng2 {m n : Int} {K : List D → P β} (h1 : -(2 ^ 62) ≤ m) (h2 : m < 2 ^ 62) (h3 : -(2 ^ 62) ≤ n) (h4 : n < 2 ^ 62) : optP (src2 .rng2 (.int m) (.int n)) K = K (rangeD m (n - m).toNat) := by
  have : src2 .rng2 (.int m) (.int n) = some (rangeD m (n - m).toNat) := by show (if _ then _ else _) = _; rw [decide_eq_true h1, decide_eq_true h2, decide_eq_true h3, decide_eq_true h4]; rfl
  rw [this]; rfl
theorem p_enum {ds : List D} {K : List D → P β} : optP (src1 .enum (.lst ds)) K = K (enumD 0 ds) := Eq.trans rfl rfl
theorem p_rev {ds : List D} {K : List D → P β} : optP (src1 .rev (.lst ds)) K = K ds.reverse := Eq.trans rfl rfl
theorem p_chars {x : Str} {K : List D → P β} : optP (src1 .chars (.str x)) K = K (chars x) := Eq.trans rfl rfl
theorem p_items {kvs : List (D × D)} {K : List D → P β} (h : strK kvs = true) : optP (src1 .items (.dic kvs)) K = K (kvs.map fun kv => .tup [kv.1, kv.2]) := by
  have : src1 .items (.dic kvs) = some (kvs.map fun kv => .tup [kv.1, kv.2]) := if_pos h
  rw [this]; rfl
theorem p_keys {kvs : List (D × D)} {K : List D → P β} (h : strK kvs = true) : optP (src1 .keys (.dic kvs)) K = K (kvs.map (·.1)) := by
  have : src1 .keys (.dic kvs) = some (kvs.map (·.1)) := if_pos h
  rw [this]; rfl
theorem p_zipL {a b : List D} {K : List D → P β} : optP (src2 .zip (.lst a) (.lst b)) K = K (zipD a b) := Eq.trans rfl rfl
theorem p_zipT {a b : List D} {K : List D → P β} : optP (src2 .zip (.tup a) (.tup b)) K = K (zipD a b) := Eq.trans rfl rfl
theorem p_opt {α : Type} {x : α} {K : α → P β} : optP (some x) K = K x := Eq.trans rfl rfl
theorem p_un1 {a : D} {K : D → P β} : un1 [a] K = K a := Eq.trans rfl rfl
theorem p_un2 {a b : D} {K : D → D → P β} : un2 [a, b] K = K a b := Eq.trans rfl rfl
theorem p_un3 {a b c : D} {K : D → D → D → P β} : un3 [a, b, c] K = K a b c := Eq.trans rfl rfl
theorem p_j0 {f : P β → P β} {K : P β} : join0 f K = f K := Eq.trans rfl rfl
theorem p_j1 {f : (D → P β) → P β} {K : D → P β} : join1 f K = f K := Eq.trans rfl rfl
theorem p_j2 {f : (D → D → P β) → P β} {K : D → D → P β} : join2 f K = f K := Eq.trans rfl rfl
theorem p_j3 {f : (D → D → D → P β) → P β} {K : D → D → D → P β} : join3 f K = f K := Eq.trans rfl rfl
theorem p_jc0 {f : P β → P β} {K : P β} (h : ∀ k, f k = k) : join0 f K = K := h K
theorem p_jc1 {f : (D → P β) → P β} {K : D → P β} (v : D) (h : ∀ k, f k = k v) : join1 f K = K v := h K
theorem p_jc2 {f : (D → D → P β) → P β} {K : D → D → P β} (v w : D) (h : ∀ k, f k = k v w) : join2 f K = K v w := h K
theorem p_ct {a b : P β} : (bif true then a else b) = a := Eq.trans rfl rfl
theorem p_cf {a b : P β} : (bif false then a else b) = b := Eq.trans rfl rfl
theorem p_ci {c : Bool} {a b : P β} (h : c = true) : (bif c then a else b) = a := by rw [h]; rfl
theorem p_cn {c : Bool} {a b : P β} (h : c = false) : (bif c then a else b) = b := by rw [h]; rfl
/-- a call whose answer is known -/
theorem bk {C : CCalls} {f : Str} {a : List D} {r w : D} (h : C f a = .ok (r, w)) (K : D × D → P β) : (C f a).bind K = K (r, w) := by rw [h]; rfl
theorem bkx {C : CCalls} {f : Str} {a : List D} {x : D} (h : C f a = .exc x) (K : D × D → P β) : (C f a).bind K = .exc x := by rw [h]; rfl

/-! ### comprehensions, loops -/
theorem lcC_go {f : D → (Option D → P β) → P β} {α : Type} {X G : α → D} {c : α → Bool} {K : List D → P β} : ∀ (xs : List α) (acc : List D), (∀ x ∈ xs, ∀ k, f (X x) k = k (if c x then some (G x) else none)) →
    lcC (fun _ x k => f x fun o => k o []) (xs.map X) [] acc (fun acc _ => K acc) = K (acc ++ (xs.filter c).map G) := by
  intro xs
  induction xs with
  | nil => intro acc _; simp [lcC]
  | cons x xs ih =>
    intro acc h
    rw [List.map_cons, lcC, h x (.head _)]
    cases hc : c x with
    | true =>
      simp only [if_true]
      rw [ih _ fun y hy => h y (.tail _ hy)]
      simp [hc]
    | false =>
      simp only [Bool.false_eq_true, if_false]
      rw [ih _ fun y hy => h y (.tail _ hy)]
      simp [hc]
theorem lc0_if {f : D → (Option D → P β) → P β} {α : Type} (xs : List α) (X : α → D) (c : α → Bool) (G : α → D) {K : List D → P β} (h : ∀ x ∈ xs, ∀ k, f (X x) k = k (if c x then some (G x) else none)) :
    lc0 f (xs.map X) K = K ((xs.filter c).map G) := (lcC_go xs [] h).trans (by simp)
theorem lc0_map {f : D → (Option D → P β) → P β} {α : Type} (xs : List α) (X : α → D) (G : α → D) {K : List D → P β} (h : ∀ x ∈ xs, ∀ k, f (X x) k = k (some (G x))) :
    lc0 f (xs.map X) K = K (xs.map G) := (lc0_if xs X (fun _ => true) G (fun x hx k => h x hx k)).trans (by rw [List.filter_eq_self.mpr fun _ _ => rfl])
/-- a comprehension that changes one thing -/
def lcF {α σ : Type} (g : σ → α → D × σ) : List α → σ → List D × σ
  | [], s => ([], s)
  | x :: xs, s => let p := g s x; let q := lcF g xs p.2; (p.1 :: q.1, q.2)
theorem lc1_go {f : D → D → (Option D → D → P β) → P β} {α σ : Type} {X : α → D} {A : σ → D} {g : σ → α → D × σ} {I : Nat → σ → Prop} {K : List D → D → P β} : ∀ (xs : List α) (i : Nat) (s : σ) (acc : List D), I i s → (∀ j s x, I (i + j) s → xs[j]? = some x → ∀ k, f (A s) (X x) k = k (some (g s x).1) (A (g s x).2)) → (∀ j s x, I (i + j) s → xs[j]? = some x → I (i + j + 1) (g s x).2) →
    lcC (fun st x k => f (st.headD .non) x fun o a => k o [a]) (xs.map X) [A s] acc (fun acc st => K acc (st.headD .non)) = K (acc ++ (lcF g xs s).1) (A (lcF g xs s).2) := by
  intro xs
  induction xs with
  | nil => intro i s acc _ _ _; simp [lcC, lcF]
  | cons x xs ih =>
    intro i s acc hs h hI
    rw [List.map_cons, lcC]
    show f (A s) (X x) _ = _
    rw [h 0 s x hs rfl]
    refine (ih (i + 1) (g s x).2 (acc ++ [(g s x).1]) (hI 0 s x hs rfl) (fun j s y q e => h (j + 1) s y (by rw [show i + (j + 1) = i + 1 + j by omega]; exact q) e) (fun j s y q e => by
      have := hI (j + 1) s y (by rw [show i + (j + 1) = i + 1 + j by omega]; exact q) e
      rw [show i + (j + 1) + 1 = i + 1 + j + 1 by omega] at this; exact this)).trans ?_
    simp [lcF]
theorem lc1_map {f : D → D → (Option D → D → P β) → P β} {α σ : Type} (xs : List α) (X : α → D) (A : σ → D) (g : σ → α → D × σ) (I : Nat → σ → Prop) (s : σ) {K : List D → D → P β} (hs : I 0 s) (h : ∀ i s x, I i s → xs[i]? = some x → ∀ k, f (A s) (X x) k = k (some (g s x).1) (A (g s x).2)) (hI : ∀ i s x, I i s → xs[i]? = some x → I (i + 1) (g s x).2) :
    lc1 f (xs.map X) (A s) K = K (lcF g xs s).1 (A (lcF g xs s).2) := (lc1_go (I := I) xs 0 s [] hs (fun j s x q e => h j s x (by rw [Nat.zero_add] at q; exact q) e) (fun j s x q e => by rw [Nat.zero_add] at q ⊢; exact hI j s x q e)).trans (by simp)
theorem loop0_all {f : D → P β → P β} {α : Type} (xs : List α) (X : α → D) {K : P β} (h : ∀ x ∈ xs, ∀ k, f (X x) k = k) : loop0 f (xs.map X) K = K := by
  show loopC (fun _ x k => f x (k [])) (xs.map X) [] (fun _ => K) = K
  have : ∀ xs : List α, (∀ x ∈ xs, ∀ k, f (X x) k = k) → loopC (fun _ x k => f x (k [])) (xs.map X) [] (fun _ => K) = K := by
    intro xs
    induction xs with
    | nil => intro _; rfl
    | cons x xs ih => intro h; rw [List.map_cons, loopC, h x (.head _)]; exact ih fun y hy => h y (.tail _ hy)
  exact this xs h
theorem loop1_go {f : D → D → (D → P β) → P β} {α σ : Type} {X : α → D} {A : σ → D} {g : σ → α → σ} {I : Nat → σ → Prop} {K : D → P β} : ∀ (xs : List α) (i : Nat) (s : σ), I i s → (∀ j s x, I (i + j) s → xs[j]? = some x → ∀ k, f (A s) (X x) k = k (A (g s x))) → (∀ j s x, I (i + j) s → xs[j]? = some x → I (i + j + 1) (g s x)) →
    loopC (fun st x k => f (st.headD .non) x fun a => k [a]) (xs.map X) [A s] (fun st => K (st.headD .non)) = K (A (xs.foldl g s)) ∧ I (i + xs.length) (xs.foldl g s) := by
  intro xs
  induction xs with
  | nil => intro i s hs _ _; exact ⟨rfl, hs⟩
  | cons x xs ih =>
    intro i s hs h hI
    rw [List.map_cons, loopC]
    have h0 := hI 0 s x hs rfl
    obtain ⟨r1, r2⟩ := ih (i + 1) (g s x) h0 (fun j s y q e => h (j + 1) s y (by rw [show i + (j + 1) = i + 1 + j by omega]; exact q) e) (fun j s y q e => by
      have := hI (j + 1) s y (by rw [show i + (j + 1) = i + 1 + j by omega]; exact q) e
      rw [show i + (j + 1) + 1 = i + 1 + j + 1 by omega] at this; exact this)
    refine ⟨?_, ?_⟩
    · show f (A s) (X x) _ = _
      rw [h 0 s x hs rfl]
      exact r1
    · rw [List.length_cons, show i + (xs.length + 1) = i + 1 + xs.length by omega]; exact r2
theorem loop1_fold {f : D → D → (D → P β) → P β} {α σ : Type} (xs : List α) (X : α → D) (A : σ → D) (g : σ → α → σ) (I : Nat → σ → Prop) (s : σ) {K : D → P β} (hs : I 0 s) (h : ∀ i s x, I i s → xs[i]? = some x → ∀ k, f (A s) (X x) k = k (A (g s x))) (hI : ∀ i s x, I i s → xs[i]? = some x → I (i + 1) (g s x)) :
    loop1 f (xs.map X) (A s) K = K (A (xs.foldl g s)) := (loop1_go (I := I) xs 0 s hs (fun j s x q e => h j s x (by rw [Nat.zero_add] at q; exact q) e) (fun j s x q e => by rw [Nat.zero_add] at q ⊢; exact hI j s x q e)).1
theorem loop2_go {f : D → D → D → (D → D → P β) → P β} {α σ : Type} {X : α → D} {A B : σ → D} {g : σ → α → σ} {I : Nat → σ → Prop} {K : D → D → P β} : ∀ (xs : List α) (i : Nat) (s : σ), I i s → (∀ j s x, I (i + j) s → xs[j]? = some x → ∀ k, f (A s) (B s) (X x) k = k (A (g s x)) (B (g s x))) → (∀ j s x, I (i + j) s → xs[j]? = some x → I (i + j + 1) (g s x)) →
    loopC (fun st x k => f (st.headD .non) (st.tail.headD .non) x fun a b => k [a, b]) (xs.map X) [A s, B s] (fun st => K (st.headD .non) (st.tail.headD .non)) = K (A (xs.foldl g s)) (B (xs.foldl g s)) ∧ I (i + xs.length) (xs.foldl g s) := by
  intro xs
  induction xs with
  | nil => intro i s hs _ _; exact ⟨rfl, hs⟩
  | cons x xs ih =>
    intro i s hs h hI
    rw [List.map_cons, loopC]
    have h0 := hI 0 s x hs rfl
    obtain ⟨r1, r2⟩ := ih (i + 1) (g s x) h0 (fun j s y q e => h (j + 1) s y (by rw [show i + (j + 1) = i + 1 + j by omega]; exact q) e) (fun j s y q e => by
      have := hI (j + 1) s y (by rw [show i + (j + 1) = i + 1 + j by omega]; exact q) e
      rw [show i + (j + 1) + 1 = i + 1 + j + 1 by omega] at this; exact this)
    refine ⟨?_, ?_⟩
    · show f (A s) (B s) (X x) _ = _
      rw [h 0 s x hs rfl]
      exact r1
    · rw [List.length_cons, show i + (xs.length + 1) = i + 1 + xs.length by omega]; exact r2
theorem loop2_fold {f : D → D → D → (D → D → P β) → P β} {α σ : Type} (xs : List α) (X : α → D) (A B : σ → D) (g : σ → α → σ) (I : Nat → σ → Prop) (s : σ) {K : D → D → P β} (hs : I 0 s) (h : ∀ i s x, I i s → xs[i]? = some x → ∀ k, f (A s) (B s) (X x) k = k (A (g s x)) (B (g s x))) (hI : ∀ i s x, I i s → xs[i]? = some x → I (i + 1) (g s x)) :
    loop2 f (xs.map X) (A s) (B s) K = K (A (xs.foldl g s)) (B (xs.foldl g s)) := (loop2_go (I := I) xs 0 s hs (fun j s x q e => h j s x (by rw [Nat.zero_add] at q; exact q) e) (fun j s x q e => by rw [Nat.zero_add] at q ⊢; exact hI j s x q e)).1
theorem loop3_go {f : D → D → D → D → (D → D → D → P β) → P β} {α σ : Type} {X : α → D} {A B E : σ → D} {g : σ → α → σ} {I : Nat → σ → Prop} {K : D → D → D → P β} : ∀ (xs : List α) (i : Nat) (s : σ), I i s → (∀ j s x, I (i + j) s → xs[j]? = some x → ∀ k, f (A s) (B s) (E s) (X x) k = k (A (g s x)) (B (g s x)) (E (g s x))) → (∀ j s x, I (i + j) s → xs[j]? = some x → I (i + j + 1) (g s x)) →
    loopC (fun st x k => f (st.headD .non) (st.tail.headD .non) (st.tail.tail.headD .non) x fun a b c => k [a, b, c]) (xs.map X) [A s, B s, E s] (fun st => K (st.headD .non) (st.tail.headD .non) (st.tail.tail.headD .non)) = K (A (xs.foldl g s)) (B (xs.foldl g s)) (E (xs.foldl g s)) ∧ I (i + xs.length) (xs.foldl g s) := by
  intro xs
  induction xs with
  | nil => intro i s hs _ _; exact ⟨rfl, hs⟩
  | cons x xs ih =>
    intro i s hs h hI
    rw [List.map_cons, loopC]
    have h0 := hI 0 s x hs rfl
    obtain ⟨r1, r2⟩ := ih (i + 1) (g s x) h0 (fun j s y q e => h (j + 1) s y (by rw [show i + (j + 1) = i + 1 + j by omega]; exact q) e) (fun j s y q e => by
      have := hI (j + 1) s y (by rw [show i + (j + 1) = i + 1 + j by omega]; exact q) e
      rw [show i + (j + 1) + 1 = i + 1 + j + 1 by omega] at this; exact this)
    refine ⟨?_, ?_⟩
    · show f (A s) (B s) (E s) (X x) _ = _
      rw [h 0 s x hs rfl]
      exact r1
    · rw [List.length_cons, show i + (xs.length + 1) = i + 1 + xs.length by omega]; exact r2
theorem loop3_fold {f : D → D → D → D → (D → D → D → P β) → P β} {α σ : Type} (xs : List α) (X : α → D) (A B E : σ → D) (g : σ → α → σ) (I : Nat → σ → Prop) (s : σ) {K : D → D → D → P β} (hs : I 0 s) (h : ∀ i s x, I i s → xs[i]? = some x → ∀ k, f (A s) (B s) (E s) (X x) k = k (A (g s x)) (B (g s x)) (E (g s x))) (hI : ∀ i s x, I i s → xs[i]? = some x → I (i + 1) (g s x)) :
    loop3 f (xs.map X) (A s) (B s) (E s) K = K (A (xs.foldl g s)) (B (xs.foldl g s)) (E (xs.foldl g s)) := (loop3_go (I := I) xs 0 s hs (fun j s x q e => h j s x (by rw [Nat.zero_add] at q; exact q) e) (fun j s x q e => by rw [Nat.zero_add] at q ⊢; exact hI j s x q e)).1
theorem loop1_ig {f : D → D → (D → P β) → P β} {α σ : Type} {X : α → D} {A : σ → D} {I : Nat → σ → Prop} {K : D → P β} {r : P β} : ∀ (xs : List α) (i : Nat) (s : σ), I i s → (∀ j s x, I (i + j) s → xs[j]? = some x → ∃ s', I (i + j + 1) s' ∧ ∀ k, f (A s) (X x) k = k (A s')) → (∀ s, I (i + xs.length) s → K (A s) = r) →
    loopC (fun st x k => f (st.headD .non) x fun a => k [a]) (xs.map X) [A s] (fun st => K (st.headD .non)) = r := by
  intro xs
  induction xs with
  | nil => intro i s hs _ hf; exact hf s hs
  | cons x xs ih =>
    intro i s hs h hf
    rw [List.map_cons, loopC]
    obtain ⟨s', hs', e⟩ := h 0 s x hs rfl
    show f (A s) (X x) _ = _
    rw [e]
    exact ih (i + 1) s' hs' (fun j s y q z => by
      obtain ⟨s2, a, b⟩ := h (j + 1) s y (by rw [show i + (j + 1) = i + 1 + j by omega]; exact q) z
      exact ⟨s2, by rw [show i + 1 + j + 1 = i + (j + 1) + 1 by omega]; exact a, b⟩) (fun s q => hf s (by rw [List.length_cons, show i + (xs.length + 1) = i + 1 + xs.length by omega]; exact q))
theorem loop1_inv {f : D → D → (D → P β) → P β} {α σ : Type} (xs : List α) (X : α → D) (A : σ → D) (I : Nat → σ → Prop) (s : σ) {K : D → P β} {r : P β} (hs : I 0 s) (h : ∀ i s x, I i s → xs[i]? = some x → ∃ s', I (i + 1) s' ∧ ∀ k, f (A s) (X x) k = k (A s')) (hf : ∀ s, I xs.length s → K (A s) = r) :
    loop1 f (xs.map X) (A s) K = r := loop1_ig (I := I) xs 0 s hs (fun j s x q e => by rw [Nat.zero_add] at q ⊢; exact h j s x q e) (fun s q => hf s (by rw [Nat.zero_add] at q; exact q))
theorem loop2_ig {f : D → D → D → (D → D → P β) → P β} {α σ : Type} {X : α → D} {A B : σ → D} {I : Nat → σ → Prop} {K : D → D → P β} {r : P β} : ∀ (xs : List α) (i : Nat) (s : σ), I i s → (∀ j s x, I (i + j) s → xs[j]? = some x → ∃ s', I (i + j + 1) s' ∧ ∀ k, f (A s) (B s) (X x) k = k (A s') (B s')) → (∀ s, I (i + xs.length) s → K (A s) (B s) = r) →
    loopC (fun st x k => f (st.headD .non) (st.tail.headD .non) x fun a b => k [a, b]) (xs.map X) [A s, B s] (fun st => K (st.headD .non) (st.tail.headD .non)) = r := by
  intro xs
  induction xs with
  | nil => intro i s hs _ hf; exact hf s hs
  | cons x xs ih =>
    intro i s hs h hf
    rw [List.map_cons, loopC]
    obtain ⟨s', hs', e⟩ := h 0 s x hs rfl
    show f (A s) (B s) (X x) _ = _
    rw [e]
    exact ih (i + 1) s' hs' (fun j s y q z => by
      obtain ⟨s2, a, b⟩ := h (j + 1) s y (by rw [show i + (j + 1) = i + 1 + j by omega]; exact q) z
      exact ⟨s2, by rw [show i + 1 + j + 1 = i + (j + 1) + 1 by omega]; exact a, b⟩) (fun s q => hf s (by rw [List.length_cons, show i + (xs.length + 1) = i + 1 + xs.length by omega]; exact q))
theorem loop2_inv {f : D → D → D → (D → D → P β) → P β} {α σ : Type} (xs : List α) (X : α → D) (A B : σ → D) (I : Nat → σ → Prop) (s : σ) {K : D → D → P β} {r : P β} (hs : I 0 s) (h : ∀ i s x, I i s → xs[i]? = some x → ∃ s', I (i + 1) s' ∧ ∀ k, f (A s) (B s) (X x) k = k (A s') (B s')) (hf : ∀ s, I xs.length s → K (A s) (B s) = r) :
    loop2 f (xs.map X) (A s) (B s) K = r := loop2_ig (I := I) xs 0 s hs (fun j s x q e => by rw [Nat.zero_add] at q ⊢; exact h j s x q e) (fun s q => hf s (by rw [Nat.zero_add] at q; exact q))
theorem loop3_ig {f : D → D → D → D → (D → D → D → P β) → P β} {α σ : Type} {X : α → D} {A B E : σ → D} {I : Nat → σ → Prop} {K : D → D → D → P β} {r : P β} : ∀ (xs : List α) (i : Nat) (s : σ), I i s → (∀ j s x, I (i + j) s → xs[j]? = some x → ∃ s', I (i + j + 1) s' ∧ ∀ k, f (A s) (B s) (E s) (X x) k = k (A s') (B s') (E s')) → (∀ s, I (i + xs.length) s → K (A s) (B s) (E s) = r) →
    loopC (fun st x k => f (st.headD .non) (st.tail.headD .non) (st.tail.tail.headD .non) x fun a b c => k [a, b, c]) (xs.map X) [A s, B s, E s] (fun st => K (st.headD .non) (st.tail.headD .non) (st.tail.tail.headD .non)) = r := by
  intro xs
  induction xs with
  | nil => intro i s hs _ hf; exact hf s hs
  | cons x xs ih =>
    intro i s hs h hf
    rw [List.map_cons, loopC]
    obtain ⟨s', hs', e⟩ := h 0 s x hs rfl
    show f (A s) (B s) (E s) (X x) _ = _
    rw [e]
    exact ih (i + 1) s' hs' (fun j s y q z => by
      obtain ⟨s2, a, b⟩ := h (j + 1) s y (by rw [show i + (j + 1) = i + 1 + j by omega]; exact q) z
      exact ⟨s2, by rw [show i + 1 + j + 1 = i + (j + 1) + 1 by omega]; exact a, b⟩) (fun s q => hf s (by rw [List.length_cons, show i + (xs.length + 1) = i + 1 + xs.length by omega]; exact q))
theorem loop3_inv {f : D → D → D → D → (D → D → D → P β) → P β} {α σ : Type} (xs : List α) (X : α → D) (A B E : σ → D) (I : Nat → σ → Prop) (s : σ) {K : D → D → D → P β} {r : P β} (hs : I 0 s) (h : ∀ i s x, I i s → xs[i]? = some x → ∃ s', I (i + 1) s' ∧ ∀ k, f (A s) (B s) (E s) (X x) k = k (A s') (B s') (E s')) (hf : ∀ s, I xs.length s → K (A s) (B s) (E s) = r) :
    loop3 f (xs.map X) (A s) (B s) (E s) K = r := loop3_ig (I := I) xs 0 s hs (fun j s x q e => by rw [Nat.zero_add] at q ⊢; exact h j s x q e) (fun s q => hf s (by rw [Nat.zero_add] at q; exact q))
theorem lc1_ig {f : D → D → (Option D → D → P β) → P β} {α σ : Type} {X : α → D} {A : σ → D} {I : Nat → σ → List D → Prop} {K : List D → D → P β} {r : P β} : ∀ (xs : List α) (i : Nat) (s : σ) (acc : List D), I i s acc → (∀ j s acc x, I (i + j) s acc → xs[j]? = some x → ∃ s' d, I (i + j + 1) s' (acc ++ [d]) ∧ ∀ k, f (A s) (X x) k = k (some d) (A s')) → (∀ s acc, I (i + xs.length) s acc → K acc (A s) = r) →
    lcC (fun st x k => f (st.headD .non) x fun o a => k o [a]) (xs.map X) [A s] acc (fun acc st => K acc (st.headD .non)) = r := by
  intro xs
  induction xs with
  | nil => intro i s acc hs _ hf; exact hf s acc hs
  | cons x xs ih =>
    intro i s acc hs h hf
    rw [List.map_cons, lcC]
    obtain ⟨s', d, hs', e⟩ := h 0 s acc x hs rfl
    show f (A s) (X x) _ = _
    rw [e]
    exact ih (i + 1) s' (acc ++ [d]) hs' (fun j s acc y q z => by
      obtain ⟨s2, d2, a, b⟩ := h (j + 1) s acc y (by rw [show i + (j + 1) = i + 1 + j by omega]; exact q) z
      exact ⟨s2, d2, by rw [show i + 1 + j + 1 = i + (j + 1) + 1 by omega]; exact a, b⟩) (fun s acc q => hf s acc (by rw [List.length_cons, show i + (xs.length + 1) = i + 1 + xs.length by omega]; exact q))
theorem lc1_inv {f : D → D → (Option D → D → P β) → P β} {α σ : Type} (xs : List α) (X : α → D) (A : σ → D) (I : Nat → σ → List D → Prop) (s : σ) {K : List D → D → P β} {r : P β} (hs : I 0 s []) (h : ∀ i s acc x, I i s acc → xs[i]? = some x → ∃ s' d, I (i + 1) s' (acc ++ [d]) ∧ ∀ k, f (A s) (X x) k = k (some d) (A s')) (hf : ∀ s acc, I xs.length s acc → K acc (A s) = r) :
    lc1 f (xs.map X) (A s) K = r := lc1_ig (I := I) xs 0 s [] hs (fun j s acc x q e => by rw [Nat.zero_add] at q ⊢; exact h j s acc x q e) (fun s acc q => hf s acc (by rw [Nat.zero_add] at q; exact q))
theorem loop1_rg {f : D → D → (D → P β) → P β} {α σ : Type} {X : α → D} {A : σ → D} {I : Nat → σ → Prop} {K : D → P β} {r : P β} : ∀ (xs : List α) (i : Nat) (s : σ), I i s → (∀ j s x, I (i + j) s → xs[j]? = some x → (∃ s', I (i + j + 1) s' ∧ ∀ k, f (A s) (X x) k = k (A s')) ∨ ∀ k, f (A s) (X x) k = r) → (∀ s, I (i + xs.length) s → K (A s) = r) →
    loopC (fun st x k => f (st.headD .non) x fun a => k [a]) (xs.map X) [A s] (fun st => K (st.headD .non)) = r := by
  intro xs
  induction xs with
  | nil => intro i s hs _ hf; exact hf s hs
  | cons x xs ih =>
    intro i s hs h hf
    rw [List.map_cons, loopC]
    show f (A s) (X x) _ = _
    rcases h 0 s x hs rfl with ⟨s', hs', e⟩ | e
    · rw [e]
      exact ih (i + 1) s' hs' (fun j s y q z => by
        rcases h (j + 1) s y (by rw [show i + (j + 1) = i + 1 + j by omega]; exact q) z with ⟨s2, a, b⟩ | b
        · exact .inl ⟨s2, by rw [show i + 1 + j + 1 = i + (j + 1) + 1 by omega]; exact a, b⟩
        · exact .inr b) (fun s q => hf s (by rw [List.length_cons, show i + (xs.length + 1) = i + 1 + xs.length by omega]; exact q))
    · rw [e]
theorem loop1_ret {f : D → D → (D → P β) → P β} {α σ : Type} (xs : List α) (X : α → D) (A : σ → D) (I : Nat → σ → Prop) (s : σ) {K : D → P β} {r : P β} (hs : I 0 s) (h : ∀ i s x, I i s → xs[i]? = some x → (∃ s', I (i + 1) s' ∧ ∀ k, f (A s) (X x) k = k (A s')) ∨ ∀ k, f (A s) (X x) k = r) (hf : ∀ s, I xs.length s → K (A s) = r) :
    loop1 f (xs.map X) (A s) K = r := loop1_rg (I := I) xs 0 s hs (fun j s x q e => by rw [Nat.zero_add] at q ⊢; exact h j s x q e) (fun s q => hf s (by rw [Nat.zero_add] at q; exact q))
theorem loop2_rg {f : D → D → D → (D → D → P β) → P β} {α σ : Type} {X : α → D} {A B : σ → D} {I : Nat → σ → Prop} {K : D → D → P β} {r : P β} : ∀ (xs : List α) (i : Nat) (s : σ), I i s → (∀ j s x, I (i + j) s → xs[j]? = some x → (∃ s', I (i + j + 1) s' ∧ ∀ k, f (A s) (B s) (X x) k = k (A s') (B s')) ∨ ∀ k, f (A s) (B s) (X x) k = r) → (∀ s, I (i + xs.length) s → K (A s) (B s) = r) →
    loopC (fun st x k => f (st.headD .non) (st.tail.headD .non) x fun a b => k [a, b]) (xs.map X) [A s, B s] (fun st => K (st.headD .non) (st.tail.headD .non)) = r := by
  intro xs
  induction xs with
  | nil => intro i s hs _ hf; exact hf s hs
  | cons x xs ih =>
    intro i s hs h hf
    rw [List.map_cons, loopC]
    show f (A s) (B s) (X x) _ = _
    rcases h 0 s x hs rfl with ⟨s', hs', e⟩ | e
    · rw [e]
      exact ih (i + 1) s' hs' (fun j s y q z => by
        rcases h (j + 1) s y (by rw [show i + (j + 1) = i + 1 + j by omega]; exact q) z with ⟨s2, a, b⟩ | b
        · exact .inl ⟨s2, by rw [show i + 1 + j + 1 = i + (j + 1) + 1 by omega]; exact a, b⟩
        · exact .inr b) (fun s q => hf s (by rw [List.length_cons, show i + (xs.length + 1) = i + 1 + xs.length by omega]; exact q))
    · rw [e]
theorem loop2_ret {f : D → D → D → (D → D → P β) → P β} {α σ : Type} (xs : List α) (X : α → D) (A B : σ → D) (I : Nat → σ → Prop) (s : σ) {K : D → D → P β} {r : P β} (hs : I 0 s) (h : ∀ i s x, I i s → xs[i]? = some x → (∃ s', I (i + 1) s' ∧ ∀ k, f (A s) (B s) (X x) k = k (A s') (B s')) ∨ ∀ k, f (A s) (B s) (X x) k = r) (hf : ∀ s, I xs.length s → K (A s) (B s) = r) :
    loop2 f (xs.map X) (A s) (B s) K = r := loop2_rg (I := I) xs 0 s hs (fun j s x q e => by rw [Nat.zero_add] at q ⊢; exact h j s x q e) (fun s q => hf s (by rw [Nat.zero_add] at q; exact q))
theorem loop3_rg {f : D → D → D → D → (D → D → D → P β) → P β} {α σ : Type} {X : α → D} {A B E : σ → D} {I : Nat → σ → Prop} {K : D → D → D → P β} {r : P β} : ∀ (xs : List α) (i : Nat) (s : σ), I i s → (∀ j s x, I (i + j) s → xs[j]? = some x → (∃ s', I (i + j + 1) s' ∧ ∀ k, f (A s) (B s) (E s) (X x) k = k (A s') (B s') (E s')) ∨ ∀ k, f (A s) (B s) (E s) (X x) k = r) → (∀ s, I (i + xs.length) s → K (A s) (B s) (E s) = r) →
    loopC (fun st x k => f (st.headD .non) (st.tail.headD .non) (st.tail.tail.headD .non) x fun a b c => k [a, b, c]) (xs.map X) [A s, B s, E s] (fun st => K (st.headD .non) (st.tail.headD .non) (st.tail.tail.headD .non)) = r := by
  intro xs
  induction xs with
  | nil => intro i s hs _ hf; exact hf s hs
  | cons x xs ih =>
    intro i s hs h hf
    rw [List.map_cons, loopC]
    show f (A s) (B s) (E s) (X x) _ = _
    rcases h 0 s x hs rfl with ⟨s', hs', e⟩ | e
    · rw [e]
      exact ih (i + 1) s' hs' (fun j s y q z => by
        rcases h (j + 1) s y (by rw [show i + (j + 1) = i + 1 + j by omega]; exact q) z with ⟨s2, a, b⟩ | b
        · exact .inl ⟨s2, by rw [show i + 1 + j + 1 = i + (j + 1) + 1 by omega]; exact a, b⟩
        · exact .inr b) (fun s q => hf s (by rw [List.length_cons, show i + (xs.length + 1) = i + 1 + xs.length by omega]; exact q))
    · rw [e]
theorem loop3_ret {f : D → D → D → D → (D → D → D → P β) → P β} {α σ : Type} (xs : List α) (X : α → D) (A B E : σ → D) (I : Nat → σ → Prop) (s : σ) {K : D → D → D → P β} {r : P β} (hs : I 0 s) (h : ∀ i s x, I i s → xs[i]? = some x → (∃ s', I (i + 1) s' ∧ ∀ k, f (A s) (B s) (E s) (X x) k = k (A s') (B s') (E s')) ∨ ∀ k, f (A s) (B s) (E s) (X x) k = r) (hf : ∀ s, I xs.length s → K (A s) (B s) (E s) = r) :
    loop3 f (xs.map X) (A s) (B s) (E s) K = r := loop3_rg (I := I) xs 0 s hs (fun j s x q e => by rw [Nat.zero_add] at q ⊢; exact h j s x q e) (fun s q => hf s (by rw [Nat.zero_add] at q; exact q))
theorem loop0_ret {f : D → P β → P β} {α : Type} (xs : List α) (X : α → D) {K r : P β} (I : Nat → Prop) (h0 : I 0) (h : ∀ i x, I i → xs[i]? = some x → (I (i + 1) ∧ ∀ k, f (X x) k = k) ∨ ∀ k, f (X x) k = r) (hf : I xs.length → K = r) : loop0 f (xs.map X) K = r := by
  have : ∀ (xs : List α) (i : Nat), I i → (∀ j x, I (i + j) → xs[j]? = some x → (I (i + j + 1) ∧ ∀ k, f (X x) k = k) ∨ ∀ k, f (X x) k = r) → (I (i + xs.length) → K = r) → loopC (fun _ x k => f x (k [])) (xs.map X) [] (fun _ => K) = r := by
    intro xs
    induction xs with
    | nil => intro i hi _ hf; exact hf hi
    | cons x xs ih =>
      intro i hi h hf
      rw [List.map_cons, loopC]
      rcases h 0 x hi rfl with ⟨a, e⟩ | e
      · rw [e]
        exact ih (i + 1) a (fun j y q z => by
          rcases h (j + 1) y (by rw [show i + (j + 1) = i + 1 + j by omega]; exact q) z with ⟨a, b⟩ | b
          · exact .inl ⟨by rw [show i + 1 + j + 1 = i + (j + 1) + 1 by omega]; exact a, b⟩
          · exact .inr b) (fun q => hf (by rw [List.length_cons, show i + (xs.length + 1) = i + 1 + xs.length by omega]; exact q))
      · rw [e]
  exact this xs 0 h0 (fun j x q e => by rw [Nat.zero_add] at q ⊢; exact h j x q e) (fun q => hf (by rw [Nat.zero_add] at q; exact q))
theorem wh1_G {f : D → (D → P β) → (D → P β) → P β} {σ : Type} (A : σ → D) (I : σ → Prop) (μ : σ → Nat) {K : D → P β} {G : P β → Prop} (h : ∀ s, I s → (∃ s', I s' ∧ μ s' < μ s ∧ ∀ ag dn, f (A s) ag dn = ag (A s')) ∨ ((∀ ag dn, f (A s) ag dn = dn (A s)) ∧ G (K (A s))) ∨ ∃ r, (∀ ag dn, f (A s) ag dn = r) ∧ G r) :
    ∀ (n : Nat) (s : σ), I s → μ s < n → G (wh1 f n (A s) K) := by
  intro n
  induction n with
  | zero => intro s _ z; omega
  | succ n ih =>
    intro s hs hm
    show G (f (A s) (fun a => whC (fun st ag dn => f (st.headD .non) (fun a => ag [a]) (fun a => dn [a])) n [a] fun st => K (st.headD .non)) (fun a => K a))
    rcases h s hs with ⟨s', h1, h2, h3⟩ | ⟨h1, h2⟩ | ⟨r, h1, h2⟩
    · rw [h3]
      exact ih s' h1 (by omega)
    · rw [h1]; exact h2
    · rw [h1]; exact h2
theorem wh2_G {f : D → D → (D → D → P β) → (D → D → P β) → P β} {σ : Type} (A B : σ → D) (I : σ → Prop) (μ : σ → Nat) {K : D → D → P β} {G : P β → Prop} (h : ∀ s, I s → (∃ s', I s' ∧ μ s' < μ s ∧ ∀ ag dn, f (A s) (B s) ag dn = ag (A s') (B s')) ∨ ((∀ ag dn, f (A s) (B s) ag dn = dn (A s) (B s)) ∧ G (K (A s) (B s))) ∨ ∃ r, (∀ ag dn, f (A s) (B s) ag dn = r) ∧ G r) :
    ∀ (n : Nat) (s : σ), I s → μ s < n → G (wh2 f n (A s) (B s) K) := by
  intro n
  induction n with
  | zero => intro s _ z; omega
  | succ n ih =>
    intro s hs hm
    show G (f (A s) (B s) (fun a b => whC (fun st ag dn => f (st.headD .non) (st.tail.headD .non) (fun a b => ag [a, b]) (fun a b => dn [a, b])) n [a, b] fun st => K (st.headD .non) (st.tail.headD .non)) (fun a b => K a b))
    rcases h s hs with ⟨s', h1, h2, h3⟩ | ⟨h1, h2⟩ | ⟨r, h1, h2⟩
    · rw [h3]
      exact ih s' h1 (by omega)
    · rw [h1]; exact h2
    · rw [h1]; exact h2
theorem wh3_G {f : D → D → D → (D → D → D → P β) → (D → D → D → P β) → P β} {σ : Type} (A B E : σ → D) (I : σ → Prop) (μ : σ → Nat) {K : D → D → D → P β} {G : P β → Prop} (h : ∀ s, I s → (∃ s', I s' ∧ μ s' < μ s ∧ ∀ ag dn, f (A s) (B s) (E s) ag dn = ag (A s') (B s') (E s')) ∨ ((∀ ag dn, f (A s) (B s) (E s) ag dn = dn (A s) (B s) (E s)) ∧ G (K (A s) (B s) (E s))) ∨ ∃ r, (∀ ag dn, f (A s) (B s) (E s) ag dn = r) ∧ G r) :
    ∀ (n : Nat) (s : σ), I s → μ s < n → G (wh3 f n (A s) (B s) (E s) K) := by
  intro n
  induction n with
  | zero => intro s _ z; omega
  | succ n ih =>
    intro s hs hm
    show G (f (A s) (B s) (E s) (fun a b c => whC (fun st ag dn => f (st.headD .non) (st.tail.headD .non) (st.tail.tail.headD .non) (fun a b c => ag [a, b, c]) (fun a b c => dn [a, b, c])) n [a, b, c] fun st => K (st.headD .non) (st.tail.headD .non) (st.tail.tail.headD .non)) (fun a b c => K a b c))
    rcases h s hs with ⟨s', h1, h2, h3⟩ | ⟨h1, h2⟩ | ⟨r, h1, h2⟩
    · rw [h3]
      exact ih s' h1 (by omega)
    · rw [h1]; exact h2
    · rw [h1]; exact h2
theorem foldl_inv {α σ : Type} (I : Nat → σ → Prop) (g : σ → α → σ) : ∀ (xs : List α) (i : Nat) (s : σ), I i s → (∀ j s x, I (i + j) s → xs[j]? = some x → I (i + j + 1) (g s x)) → I (i + xs.length) (xs.foldl g s) := by
  intro xs
  induction xs with
  | nil => intro i s h _; exact h
  | cons x xs ih =>
    intro i s h hI
    rw [List.length_cons, show i + (xs.length + 1) = i + 1 + xs.length by omega]
    exact ih (i + 1) (g s x) (hI 0 s x h rfl) (fun j s y q e => by
      have := hI (j + 1) s y (by rw [show i + (j + 1) = i + 1 + j by omega]; exact q) e
      rw [show i + (j + 1) + 1 = i + 1 + j + 1 by omega] at this; exact this)
theorem ix_lt {α : Type} {xs : List α} {i : Nat} {x : α} (h : xs[i]? = some x) : i < xs.length := (List.getElem?_eq_some_iff.mp h).1
theorem ix_mem {α : Type} {xs : List α} {i : Nat} {x : α} (h : xs[i]? = some x) : x ∈ xs := List.mem_of_getElem? h
end

/-! ### calls -/
def Is0 (T : Tab) (f : Str) (X : CCalls → P (D × D)) : Prop := ∀ (k : Nat), callC T (k + 1) f [] = X (callC T k)
theorem is0_of {T : Tab} {f : Str} {F : Fn} {X : CCalls → P (D × D)} (h : T.lookup f = some F) (hx : ∀ (C : CCalls) , runC C F [] = X C ) : Is0 T f X := fun k  => by
  show (match T.lookup f with | some F => runC (callC T k) F [] | none => .stuck) = _
  rw [h]; exact hx _ 
def Is1 (T : Tab) (f : Str) (X : CCalls → D → P (D × D)) : Prop := ∀ (k : Nat) (a : D), callC T (k + 1) f [a] = X (callC T k) a
theorem is1_of {T : Tab} {f : Str} {F : Fn} {X : CCalls → D → P (D × D)} (h : T.lookup f = some F) (hx : ∀ (C : CCalls) (a : D), runC C F [a] = X C a) : Is1 T f X := fun k a => by
  show (match T.lookup f with | some F => runC (callC T k) F [a] | none => .stuck) = _
  rw [h]; exact hx _ a
def Is2 (T : Tab) (f : Str) (X : CCalls → D → D → P (D × D)) : Prop := ∀ (k : Nat) (a b : D), callC T (k + 1) f [a, b] = X (callC T k) a b
theorem is2_of {T : Tab} {f : Str} {F : Fn} {X : CCalls → D → D → P (D × D)} (h : T.lookup f = some F) (hx : ∀ (C : CCalls) (a b : D), runC C F [a, b] = X C a b) : Is2 T f X := fun k a b => by
  show (match T.lookup f with | some F => runC (callC T k) F [a, b] | none => .stuck) = _
  rw [h]; exact hx _ a b
def Is3 (T : Tab) (f : Str) (X : CCalls → D → D → D → P (D × D)) : Prop := ∀ (k : Nat) (a b c : D), callC T (k + 1) f [a, b, c] = X (callC T k) a b c
theorem is3_of {T : Tab} {f : Str} {F : Fn} {X : CCalls → D → D → D → P (D × D)} (h : T.lookup f = some F) (hx : ∀ (C : CCalls) (a b c : D), runC C F [a, b, c] = X C a b c) : Is3 T f X := fun k a b c => by
  show (match T.lookup f with | some F => runC (callC T k) F [a, b, c] | none => .stuck) = _
  rw [h]; exact hx _ a b c
def Is4 (T : Tab) (f : Str) (X : CCalls → D → D → D → D → P (D × D)) : Prop := ∀ (k : Nat) (a b c d : D), callC T (k + 1) f [a, b, c, d] = X (callC T k) a b c d
theorem is4_of {T : Tab} {f : Str} {F : Fn} {X : CCalls → D → D → D → D → P (D × D)} (h : T.lookup f = some F) (hx : ∀ (C : CCalls) (a b c d : D), runC C F [a, b, c, d] = X C a b c d) : Is4 T f X := fun k a b c d => by
  show (match T.lookup f with | some F => runC (callC T k) F [a, b, c, d] | none => .stuck) = _
  rw [h]; exact hx _ a b c d
def Is5 (T : Tab) (f : Str) (X : CCalls → D → D → D → D → D → P (D × D)) : Prop := ∀ (k : Nat) (a b c d e : D), callC T (k + 1) f [a, b, c, d, e] = X (callC T k) a b c d e
theorem is5_of {T : Tab} {f : Str} {F : Fn} {X : CCalls → D → D → D → D → D → P (D × D)} (h : T.lookup f = some F) (hx : ∀ (C : CCalls) (a b c d e : D), runC C F [a, b, c, d, e] = X C a b c d e) : Is5 T f X := fun k a b c d e => by
  show (match T.lookup f with | some F => runC (callC T k) F [a, b, c, d, e] | none => .stuck) = _
  rw [h]; exact hx _ a b c d e
def Is6 (T : Tab) (f : Str) (X : CCalls → D → D → D → D → D → D → P (D × D)) : Prop := ∀ (k : Nat) (a b c d e g : D), callC T (k + 1) f [a, b, c, d, e, g] = X (callC T k) a b c d e g
theorem is6_of {T : Tab} {f : Str} {F : Fn} {X : CCalls → D → D → D → D → D → D → P (D × D)} (h : T.lookup f = some F) (hx : ∀ (C : CCalls) (a b c d e g : D), runC C F [a, b, c, d, e, g] = X C a b c d e g) : Is6 T f X := fun k a b c d e g => by
  show (match T.lookup f with | some F => runC (callC T k) F [a, b, c, d, e, g] | none => .stuck) = _
  rw [h]; exact hx _ a b c d e g

/-! ### numbers -/
theorem dv2 : divOk 2 = true := by decide +kernel
theorem z2 : (0 : Int) < 2 := by decide
theorem dv3 : divOk 3 = true := by decide +kernel
theorem z3 : (0 : Int) < 3 := by decide
theorem dv4 : divOk 4 = true := by decide +kernel
theorem z4 : (0 : Int) < 4 := by decide
theorem dv5 : divOk 5 = true := by decide +kernel
theorem z5 : (0 : Int) < 5 := by decide
theorem dv6 : divOk 6 = true := by decide +kernel
theorem z6 : (0 : Int) < 6 := by decide
theorem dv7 : divOk 7 = true := by decide +kernel
theorem z7 : (0 : Int) < 7 := by decide
theorem dv8 : divOk 8 = true := by decide +kernel
theorem z8 : (0 : Int) < 8 := by decide
theorem dv9 : divOk 9 = true := by decide +kernel
theorem z9 : (0 : Int) < 9 := by decide
theorem dv10 : divOk 10 = true := by decide +kernel
theorem z10 : (0 : Int) < 10 := by decide
theorem dv11 : divOk 11 = true := by decide +kernel
theorem z11 : (0 : Int) < 11 := by decide
theorem dv12 : divOk 12 = true := by decide +kernel
theorem z12 : (0 : Int) < 12 := by decide
theorem dv13 : divOk 13 = true := by decide +kernel
theorem z13 : (0 : Int) < 13 := by decide
theorem dv14 : divOk 14 = true := by decide +kernel
theorem z14 : (0 : Int) < 14 := by decide
theorem dv15 : divOk 15 = true := by decide +kernel
theorem z15 : (0 : Int) < 15 := by decide
theorem dv16 : divOk 16 = true := by decide +kernel
theorem z16 : (0 : Int) < 16 := by decide
theorem dv20 : divOk 20 = true := by decide +kernel
theorem z20 : (0 : Int) < 20 := by decide
theorem dv26 : divOk 26 = true := by decide +kernel
theorem z26 : (0 : Int) < 26 := by decide
theorem dv30 : divOk 30 = true := by decide +kernel
theorem z30 : (0 : Int) < 30 := by decide
theorem dv40 : divOk 40 = true := by decide +kernel
theorem z40 : (0 : Int) < 40 := by decide
theorem dv50 : divOk 50 = true := by decide +kernel
theorem z50 : (0 : Int) < 50 := by decide
theorem dv60 : divOk 60 = true := by decide +kernel
theorem z60 : (0 : Int) < 60 := by decide
theorem dv100 : divOk 100 = true := by decide +kernel
theorem z100 : (0 : Int) < 100 := by decide
theorem dv1000 : divOk 1000 = true := by decide +kernel
theorem z1000 : (0 : Int) < 1000 := by decide
theorem dv4800 : divOk 4800 = true := by decide +kernel
theorem z4800 : (0 : Int) < 4800 := by decide
theorem dv2147483647 : divOk 2147483647 = true := by decide +kernel
theorem z2147483647 : (0 : Int) < 2147483647 := by decide
theorem dv2147483629 : divOk 2147483629 = true := by decide +kernel
theorem z2147483629 : (0 : Int) < 2147483629 := by decide
theorem dv2147483587 : divOk 2147483587 = true := by decide +kernel
theorem z2147483587 : (0 : Int) < 2147483587 := by decide
theorem dvS {j : Int} (h0 : 0 < j) (h1 : j < 2 ^ 64) : divOk j = true := by
  unfold divOk
  rw [decide_eq_true h0, Bool.true_and]
  refine decide_eq_true ?_
  have h2 : j.natAbs < 2 ^ 64 := by omega
  rw [Nat.log2_lt (by omega)]
  calc j.natAbs < 2 ^ 64 := h2
    _ ≤ 2 ^ 9000 := Nat.pow_le_pow_right (by omega) (by omega)
theorem mul_r {i j : Int} (h1 : -(2 ^ 64) < j) (h2 : j < 2 ^ 64) : mulOk i j = true := by
  unfold mulOk
  rw [decide_eq_true h1, decide_eq_true h2]; simp
theorem mul_l {i j : Int} (h1 : -(2 ^ 64) < i) (h2 : i < 2 ^ 64) : mulOk i j = true := by
  unfold mulOk
  rw [decide_eq_true h1, decide_eq_true h2]; simp
theorem mu1 (i : Int) : mulOk i 1000000007 = true := mul_r (by decide) (by decide)
theorem mu5 (i : Int) : mulOk 5 i = true := mul_l (by decide) (by decide)
theorem mu7 (i : Int) : mulOk 7 i = true := mul_l (by decide) (by decide)
theorem pw1 : powOk 10 18 = true := by decide +kernel
theorem sz_of {n : Nat} (h : n ≤ 100000) : szOk n = true := decide_eq_true (by simp [sizeLine]; omega)
theorem ints_map {α : Type} (f : α → Int) : ∀ xs : List α, ints? (xs.map fun x => D.int (f x)) = some (xs.map f)
  | [] => rfl
  | x :: xs => by simp [ints?, ints_map f xs]
theorem ints_id (xs : List Int) : ints? (xs.map D.int) = some xs := by have := ints_map id xs; simpa using this
theorem strs_map {α : Type} (f : α → Str) : ∀ xs : List α, strs? (xs.map fun x => D.str (f x)) = some (xs.map f)
  | [] => rfl
  | x :: xs => by simp [strs?, strs_map f xs]
theorem bls_map {α : Type} (f : α → Bool) : ∀ xs : List α, bls? (xs.map fun x => D.bl (f x)) = some (xs.map f)
  | [] => rfl
  | x :: xs => by simp [bls?, bls_map f xs]
theorem atI_get {α : Type} {xs : List α} {i : Int} {d : α} (h0 : 0 ≤ i) (h1 : i < xs.length) : L2.atI xs i = some (xs.getD i.toNat d) := by
  unfold L2.atI L2.ixN
  rw [if_pos h0, if_pos h1]
  simp only [Option.bind]
  have : i.toNat < xs.length := by omega
  rw [List.getD_eq_getElem?_getD, List.getElem?_eq_getElem this]; rfl
theorem atI_map {α β : Type} {xs : List α} {f : α → β} {i : Int} {d : α} (h0 : 0 ≤ i) (h1 : i < xs.length) : L2.atI (xs.map f) i = some (f (xs.getD i.toNat d)) := by
  rw [atI_get (d := f d) h0 (by simpa using h1)]
  simp [List.getD_eq_getElem?_getD]
theorem atI_nat {α : Type} {xs : List α} {n : Nat} {d : α} (h : xs[n]? = some d) : L2.atI xs (n : Int) = some d := by
  obtain ⟨hl, e⟩ := List.getElem?_eq_some_iff.mp h
  rw [atI_get (d := d) (by omega) (by omega), List.getD_eq_getElem?_getD]
  simp [h]
theorem rangeD_map : ∀ (n : Nat) (lo : Int), rangeD lo n = (List.range n).map fun i : Nat => .int (lo + i)
  | 0, lo => rfl
  | n + 1, lo => by
    rw [rangeD, rangeD_map n, List.range_succ_eq_map, List.map_cons, List.map_map]
    simp [Function.comp_def]
    intro a _; omega
theorem rangeD0 (n : Nat) : rangeD 0 n = (List.range n).map fun i : Nat => .int i := by
  rw [rangeD_map]; simp
theorem rangeD_len : ∀ (n : Nat) (lo : Int), (rangeD lo n).length = n
  | 0, lo => rfl
  | n + 1, lo => by rw [rangeD, List.length_cons, rangeD_len n]
theorem cut_map {α β : Type} (f : α → β) (xs : List α) (lo hi : Option Int) : cut (xs.map f) lo hi = (cut xs lo hi).map f := by
  unfold cut
  rw [List.length_map, List.map_take, List.map_drop]
theorem cut_len {α : Type} (xs : List α) (lo hi : Option Int) : (cut xs lo hi).length ≤ xs.length := by
  unfold cut; rw [List.length_take, List.length_drop]; omega
theorem cut_tail {α : Type} (x : α) (xs : List α) : cut (x :: xs) (some 1) none = xs := by
  unfold cut HT.sIx
  simp
theorem cut_one {α : Type} (x : α) (xs : List α) : cut (x :: xs) none (some 1) = [x] := by
  unfold cut HT.sIx
  simp
theorem cut_drop {α : Type} (xs : List α) (i : Int) (h : 0 ≤ i) : cut xs (some i) none = xs.drop i.toNat := by
  unfold cut HT.sIx
  simp only []
  rw [if_neg (by omega)]
  rcases Nat.lt_or_ge xs.length i.toNat with h' | h'
  · rw [List.drop_of_length_le (by omega), List.drop_of_length_le (by omega)]; simp
  · rw [show min i.toNat xs.length = i.toNat by omega, List.take_of_length_le (by simp)]
theorem cut_take {α : Type} (xs : List α) (i : Int) (h : 0 ≤ i) : cut xs none (some i) = xs.take i.toNat := by
  unfold cut HT.sIx
  simp only []
  rw [if_neg (by omega)]
  simp

/-! ### equality -/
mutual
/-- no truths, no dicts, no exceptions -/
def plD : D → Bool
  | .non => true
  | .int _ => true
  | .str _ => true
  | .tup ds => plDs ds
  | .lst ds => plDs ds
  | _ => false
def plDs : List D → Bool
  | [] => true
  | d :: ds => plD d && plDs ds
end
mutual
theorem eqv_iff : ∀ a b : D, plD a = true → plD b = true → (PyData.eqv a.toP b.toP = true ↔ a = b)
  | .non, b, _, hb => by cases b <;> simp [D.toP, PyData.eqv] <;> cases hb
  | .int i, b, _, hb => by cases b <;> simp [D.toP, PyData.eqv] <;> cases hb
  | .str x, b, _, hb => by cases b <;> simp [D.toP, PyData.eqv] <;> cases hb
  | .tup ds, b, ha, hb => by
    cases b with
    | tup es => simp only [D.toP, PyData.eqv, D.tup.injEq]; exact eqvs_iff ds es (by simpa [plD] using ha) (by simpa [plD] using hb)
    | bl => cases hb
    | dic => cases hb
    | exc => cases hb
    | _ => simp [D.toP, PyData.eqv]
  | .lst ds, b, ha, hb => by
    cases b with
    | lst es => simp only [D.toP, PyData.eqv, D.lst.injEq]; exact eqvs_iff ds es (by simpa [plD] using ha) (by simpa [plD] using hb)
    | bl => cases hb
    | dic => cases hb
    | exc => cases hb
    | _ => simp [D.toP, PyData.eqv]
  | .bl _, _, ha, _ => by cases ha
  | .dic _, _, ha, _ => by cases ha
  | .exc _ _, _, ha, _ => by cases ha
theorem eqvs_iff : ∀ a b : List D, plDs a = true → plDs b = true → (PyData.eqvAll (D.toPs a) (D.toPs b) = true ↔ a = b)
  | [], b, _, _ => by cases b <;> simp [D.toPs, PyData.eqvAll]
  | x :: xs, b, ha, hb => by
    cases b with
    | nil => simp [D.toPs, PyData.eqvAll]
    | cons y ys =>
      simp only [plDs, Bool.and_eq_true] at ha hb
      simp only [D.toPs, PyData.eqvAll, Bool.and_eq_true, List.cons.injEq]
      rw [eqv_iff x y ha.1 hb.1, eqvs_iff xs ys ha.2 hb.2]
end
theorem eq_iff {a b : D} (ha : plD a = true) (hb : plD b = true) : D.eq a b = true ↔ a = b := eqv_iff a b ha hb
theorem eq_dec {a b : D} {p : Prop} [Decidable p] (ha : plD a = true) (hb : plD b = true) (h : a = b ↔ p) : D.eq a b = decide p := by
  cases hd : decide p with
  | true => exact (eq_iff ha hb).mpr (h.mpr (of_decide_eq_true hd))
  | false =>
    cases he : D.eq a b with
    | false => rfl
    | true => exact absurd (h.mp ((eq_iff ha hb).mp he)) (of_decide_eq_false hd)
theorem not_dic_of {a : D} (h : plD a = true) : ∀ x, a ≠ .dic x := fun x e => by rw [e] at h; cases h
theorem opEq_pl {a b : D} {f : Bool → Bool} (ha : plD a = true) (h1 : a.eqOk = true) (h2 : b.eqOk = true) : opEq a b f = some (.sh, .bl (f (a.eq b))) := by
  have : opEq a b f = if a.eqOk && b.eqOk then some (.sh, .bl (f (a.eq b))) else none := by
    cases a with
    | dic => cases ha
    | _ => rfl
  rw [this, h1, h2]; rfl
section
variable {β : Type}
theorem p_eq {a b : D} {p : Prop} [Decidable p] {K : D → P β} (ha : plD a = true) (hb : plD b = true) (h1 : a.eqOk = true) (h2 : b.eqOk = true) (h : a = b ↔ p) : oP (op2 .eq a b) K = K (.bl (decide p)) := by
  have : op2 .eq a b = some (.sh, .bl (decide p)) := by show opEq a b id = _; rw [opEq_pl ha h1 h2, eq_dec ha hb h]; rfl
  rw [this]; rfl
theorem p_ne {a b : D} {p : Prop} [Decidable p] {K : D → P β} (ha : plD a = true) (hb : plD b = true) (h1 : a.eqOk = true) (h2 : b.eqOk = true) (h : a = b ↔ p) : oP (op2 .ne a b) K = K (.bl (!decide p)) := by
  have : op2 .ne a b = some (.sh, .bl (!decide p)) := by show opEq a b not = _; rw [opEq_pl ha h1 h2, eq_dec ha hb h]
  rw [this]; rfl
theorem p_eqI {i j : Int} {K : D → P β} : oP (op2 .eq (.int i) (.int j)) K = K (.bl (decide (i = j))) := p_eq rfl rfl rfl rfl (by simp)
theorem p_neI {i j : Int} {K : D → P β} : oP (op2 .ne (.int i) (.int j)) K = K (.bl (!decide (i = j))) := p_ne rfl rfl rfl rfl (by simp)
end

/-! ### terms -/
inductive Tm where
  | bl (s : Str)
  | nd (s : Str) (ps : List Tm)
instance : Inhabited Tm := ⟨.bl ⟨#[]⟩⟩
mutual
def decT : (t u : Tm) → Decidable (t = u)
  | .bl a, .bl b => if h : a = b then Decidable.isTrue (by rw [h]) else Decidable.isFalse (fun e => h (by cases e; rfl))
  | .bl _, .nd _ _ => Decidable.isFalse (fun e => nomatch e)
  | .nd _ _, .bl _ => Decidable.isFalse (fun e => nomatch e)
  | .nd a ps, .nd b qs => if h : a = b then (match decTs ps qs with
    | Decidable.isTrue e => Decidable.isTrue (by rw [h, e])
    | Decidable.isFalse e => Decidable.isFalse (fun z => e (by cases z; rfl))) else Decidable.isFalse (fun e => h (by cases e; rfl))
def decTs : (t u : List Tm) → Decidable (t = u)
  | [], [] => Decidable.isTrue rfl
  | [], _ :: _ => Decidable.isFalse (fun e => nomatch e)
  | _ :: _, [] => Decidable.isFalse (fun e => nomatch e)
  | t :: ts, u :: us => match decT t u, decTs ts us with
    | Decidable.isTrue a, Decidable.isTrue b => Decidable.isTrue (by rw [a, b])
    | Decidable.isFalse a, _ => Decidable.isFalse (fun e => a (by cases e; rfl))
    | _, Decidable.isFalse b => Decidable.isFalse (fun e => b (by cases e; rfl))
end
instance : DecidableEq Tm := decT
mutual
def toD : Tm → D
  | .bl s => .str s
  | .nd s ps => .tup (.str s :: toDs ps)
def toDs : List Tm → List D
  | [] => []
  | t :: ts => toD t :: toDs ts
end
mutual
def dep : Tm → Nat
  | .bl _ => 1
  | .nd _ ps => 1 + deps ps
def deps : List Tm → Nat
  | [] => 0
  | t :: ts => max (dep t) (deps ts)
end
mutual
def parts : Tm → Nat
  | .bl _ => 1
  | .nd _ ps => 1 + partss ps
def partss : List Tm → Nat
  | [] => 0
  | t :: ts => parts t + partss ts
end
mutual
/-- all its texts may be laid down -/
def okT : Tm → Bool
  | .bl s => PyData.strOk s
  | .nd s ps => PyData.strOk s && okTs ps
def okTs : List Tm → Bool
  | [] => true
  | t :: ts => okT t && okTs ts
end
def kids : Tm → List Tm
  | .bl _ => []
  | .nd _ ps => ps
def isB : Tm → Bool
  | .bl _ => true
  | .nd _ _ => false
theorem toDs_map : ∀ ts, toDs ts = ts.map toD
  | [] => rfl
  | t :: ts => by rw [toDs, toDs_map ts]; rfl
theorem partss_sum : ∀ ts, partss ts = (ts.map parts).sum
  | [] => rfl
  | t :: ts => by rw [partss, partss_sum ts]; rfl
theorem okTs_mem : ∀ {ts : List Tm}, okTs ts = true ↔ ∀ t ∈ ts, okT t = true
  | [] => by simp [okTs]
  | t :: ts => by rw [okTs, Bool.and_eq_true, okTs_mem (ts := ts)]; simp
theorem dep_mem : ∀ {ts : List Tm} {t : Tm}, t ∈ ts → dep t ≤ deps ts
  | u :: ts, t, h => by
    rw [deps]
    rcases List.mem_cons.mp h with e | e
    · subst e; omega
    · have := dep_mem e; omega
theorem deps_le : ∀ {ts : List Tm} {n : Nat}, (∀ t ∈ ts, dep t ≤ n) → deps ts ≤ n
  | [], n, _ => by simp [deps]
  | t :: ts, n, h => by rw [deps]; have := h t (.head _); have := deps_le (ts := ts) (n := n) fun u hu => h u (.tail _ hu); omega
theorem dep_kid {t u : Tm} (h : u ∈ kids t) : dep u < dep t := by
  cases t with
  | bl s => cases h
  | nd s ps => have := dep_mem (ts := ps) h; rw [dep]; omega
theorem dep_pos (t : Tm) : 0 < dep t := by cases t <;> rw [dep] <;> omega
theorem parts_mem : ∀ {ts : List Tm} {t : Tm}, t ∈ ts → parts t ≤ partss ts
  | u :: ts, t, h => by
    rw [partss]
    rcases List.mem_cons.mp h with e | e
    · subst e; omega
    · have := parts_mem e; omega
theorem parts_pos (t : Tm) : 0 < parts t := by cases t <;> rw [parts] <;> omega
theorem len_partss : ∀ ts : List Tm, ts.length ≤ partss ts
  | [] => by simp [partss]
  | t :: ts => by rw [partss, List.length_cons]; have := len_partss ts; have := parts_pos t; omega
theorem kids_len (t : Tm) : (kids t).length < parts t := by
  cases t with
  | bl s => simp [kids, parts]
  | nd s ps => have := len_partss ps; simp [kids, parts]; omega
theorem parts_kids (t : Tm) : parts t = 1 + ((kids t).map parts).sum := by
  cases t with
  | bl s => rfl
  | nd s ps => rw [parts, partss_sum]; rfl
theorem parts_kid {t u : Tm} (hu : u ∈ kids t) : parts u < parts t := by
  cases t with
  | bl s => cases hu
  | nd s ps => have := parts_mem (ts := ps) hu; rw [parts]; omega
theorem partss_app : ∀ a b : List Tm, partss (a ++ b) = partss a + partss b
  | [], b => by simp [partss]
  | t :: a, b => by rw [List.cons_append, partss, partss, partss_app a b]; omega
theorem deps_app : ∀ a b : List Tm, deps (a ++ b) = max (deps a) (deps b)
  | [], b => by simp [deps]
  | t :: a, b => by rw [List.cons_append, deps, deps, deps_app a b]; omega
theorem okTs_app (a b : List Tm) : okTs (a ++ b) = (okTs a && okTs b) := by
  induction a with
  | nil => simp [okTs]
  | cons t a ih => rw [List.cons_append, okTs, okTs, ih, Bool.and_assoc]
theorem sum_cast {α : Type} (f : α → Nat) : ∀ xs : List α, (xs.map fun x => ((f x : Nat) : Int)).sum = (((xs.map f).sum : Nat) : Int)
  | [] => rfl
  | x :: xs => by simp [sum_cast f xs]
mutual
theorem toD_inj : ∀ t u, toD t = toD u → t = u
  | .bl a, .bl b, h => by cases h; rfl
  | .bl _, .nd _ _, h => by cases h
  | .nd _ _, .bl _, h => by cases h
  | .nd a ps, .nd b qs, h => by
    simp only [toD, D.tup.injEq, List.cons.injEq, D.str.injEq] at h
    rw [h.1, toDs_inj ps qs h.2]
theorem toDs_inj : ∀ t u, toDs t = toDs u → t = u
  | [], [], _ => rfl
  | [], _ :: _, h => by cases h
  | _ :: _, [], h => by cases h
  | t :: ts, u :: us, h => by
    simp only [toDs, List.cons.injEq] at h
    rw [toD_inj t u h.1, toDs_inj ts us h.2]
end
mutual
theorem plD_tm : ∀ t, plD (toD t) = true
  | .bl _ => rfl
  | .nd _ ps => by rw [toD, plD, plDs, plDs_tm ps]; rfl
theorem plDs_tm : ∀ ts, plDs (toDs ts) = true
  | [] => rfl
  | t :: ts => by rw [toDs, plDs, plD_tm t, plDs_tm ts]; rfl
end
mutual
theorem lay_tm : ∀ t, okT t = true → (toD t).toP.canLay0 = true
  | .bl s, h => by rw [toD, D.toP, PyData.canLay0]; exact h
  | .nd s ps, h => by
    rw [okT, Bool.and_eq_true] at h
    rw [toD, D.toP, PyData.canLay0, D.toPs, PyData.canLayAll0, D.toP, PyData.canLay0, h.1, lays_tm ps h.2]; rfl
theorem lays_tm : ∀ ts, okTs ts = true → PyData.canLayAll0 (D.toPs (toDs ts)) = true
  | [], _ => rfl
  | t :: ts, h => by
    rw [okTs, Bool.and_eq_true] at h
    rw [toDs, D.toPs, PyData.canLayAll0, lay_tm t h.1, lays_tm ts h.2]; rfl
end
mutual
theorem depth_tm : ∀ t, (toD t).toP.depth ≤ 2 * dep t
  | .bl s => by rw [toD, D.toP, PyData.depth, dep]; omega
  | .nd s ps => by
    rw [toD, D.toP, PyData.depth, D.toPs, PyData.depthAll, D.toP, PyData.depth, dep]
    have := depths_tm ps; omega
theorem depths_tm : ∀ ts, PyData.depthAll (D.toPs (toDs ts)) ≤ 2 * deps ts
  | [] => by simp [toDs, D.toPs, PyData.depthAll]
  | t :: ts => by
    rw [toDs, D.toPs, PyData.depthAll, deps]
    have := depth_tm t; have := depths_tm ts; omega
end
theorem eqOk_tm {t : Tm} (h : okT t = true) (hd : dep t ≤ 75) : (toD t).eqOk = true := by
  unfold D.eqOk
  rw [lay_tm t h, Bool.true_and]
  exact decide_eq_true (by have := depth_tm t; omega)
section
variable {β : Type}
theorem p_eqT {t u : Tm} {K : D → P β} (h1 : okT t = true) (h2 : okT u = true) (d1 : dep t ≤ 75) (d2 : dep u ≤ 75) : oP (op2 .eq (toD t) (toD u)) K = K (.bl (decide (t = u))) :=
  p_eq (plD_tm t) (plD_tm u) (eqOk_tm h1 d1) (eqOk_tm h2 d2) ⟨fun e => toD_inj t u e, fun e => by rw [e]⟩
theorem p_neT {t u : Tm} {K : D → P β} (h1 : okT t = true) (h2 : okT u = true) (d1 : dep t ≤ 75) (d2 : dep u ≤ 75) : oP (op2 .ne (toD t) (toD u)) K = K (.bl (!decide (t = u))) :=
  p_ne (plD_tm t) (plD_tm u) (eqOk_tm h1 d1) (eqOk_tm h2 d2) ⟨fun e => toD_inj t u e, fun e => by rw [e]⟩
end
end Pu
end

section
set_option Elab.async false
set_option linter.all false
set_option maxRecDepth 100000
set_option maxHeartbeats 1000000
namespace Pu
open En PySem Sh

/-! ### texts -/
def strL (l : List Nat) : Str := ⟨l.toArray⟩
theorem strL_app (a b : List Nat) : strL a ++ strL b = strL (a ++ b) := by
  show Str.append _ _ = _
  simp [strL, Str.append]
theorem strL_len (a : List Nat) : (strL a).length = a.length := by simp [strL, Str.length]
theorem strL_cps (a : List Nat) : (strL a).cps.toList = a := by simp [strL]
theorem strL_inj {a b : List Nat} (h : strL a = strL b) : a = b := by
  have := congrArg (fun s => s.cps.toList) h
  simpa [strL] using this
theorem strL_one (c : Nat) : (⟨#[c]⟩ : Str) = strL [c] := rfl
theorem strL_arr (l : List Nat) : (⟨l.toArray⟩ : Str) = strL l := rfl
theorem strOk_L {l : List Nat} (h : ∀ c ∈ l, c < 55296) : PyData.strOk (strL l) = true := by
  simp [PyData.strOk, strL]
  intro c hc; have := h c hc; omega
def abc : List Nat := [97, 98, 99, 100, 101, 102, 103, 104, 105, 106, 107, 108, 109, 110, 111, 112, 113, 114, 115, 116, 117, 118, 119, 120, 121, 122]
def ABC : List Nat := [65, 66, 67, 68, 69, 70, 71, 72, 73, 74, 75, 76, 77, 78, 79, 80, 81, 82, 83, 84, 85, 86, 87, 88, 89, 90]
theorem abc_str : Str.ofString "abcdefghijklmnopqrstuvwxyz" = strL abc := by decide +kernel
theorem ABC_str : Str.ofString "ABCDEFGHIJKLMNOPQRSTUVWXYZ" = strL ABC := by decide +kernel
theorem emp_str : Str.ofString "" = strL [] := by decide +kernel
def abcAt (i : Int) : Nat := abc.getD i.toNat 97
def ABCAt (i : Int) : Nat := ABC.getD i.toNat 65
theorem abc_at (x : Int) : L2.atI abc (x % 26) = some (abcAt (x % 26)) := atI_get (by omega) (by simp [abc]; omega)
theorem ABC_at (x : Int) : L2.atI ABC (x % 26) = some (ABCAt (x % 26)) := atI_get (by omega) (by simp [ABC]; omega)
theorem abcAt_all (i : Int) : 97 ≤ abcAt i ∧ abcAt i ≤ 122 := by
  unfold abcAt
  have : ∀ n, 97 ≤ abc.getD n 97 ∧ abc.getD n 97 ≤ 122 := fun n => by
    by_cases h : n < 26
    · have : ∀ n, n < 26 → 97 ≤ abc.getD n 97 ∧ abc.getD n 97 ≤ 122 := by decide
      exact this n h
    · rw [List.getD_eq_getElem?_getD, List.getElem?_eq_none (by simp [abc]; omega)]; simp
  exact this _
theorem ABCAt_all (i : Int) : 65 ≤ ABCAt i ∧ ABCAt i ≤ 90 := by
  unfold ABCAt
  have : ∀ n, 65 ≤ ABC.getD n 65 ∧ ABC.getD n 65 ≤ 90 := fun n => by
    by_cases h : n < 26
    · have : ∀ n, n < 26 → 65 ≤ ABC.getD n 65 ∧ ABC.getD n 65 ≤ 90 := by decide
      exact this n h
    · rw [List.getD_eq_getElem?_getD, List.getElem?_eq_none (by simp [ABC]; omega)]; simp
  exact this _
section
variable {β : Type}
theorem p_abc {x : Int} {K : D → P β} : oP (op2 .idx (.str (Str.ofString "abcdefghijklmnopqrstuvwxyz")) (.int (x % 26))) K = K (.str (strL [abcAt (x % 26)])) := by
  rw [abc_str]; exact p_idxS (by rw [strL_len]; decide) (by rw [strL_cps]; exact abc_at x)
theorem p_ABC {x : Int} {K : D → P β} : oP (op2 .idx (.str (Str.ofString "ABCDEFGHIJKLMNOPQRSTUVWXYZ")) (.int (x % 26))) K = K (.str (strL [ABCAt (x % 26)])) := by
  rw [ABC_str]; exact p_idxS (by rw [strL_len]; decide) (by rw [strL_cps]; exact ABC_at x)
theorem p_addSL {a b : List Nat} {K : D → P β} (h : a.length + b.length ≤ 100000) : oP (op2 .add (.str (strL a)) (.str (strL b))) K = K (.str (strL (a ++ b))) := by
  rw [p_addS (by rw [strL_len, strL_len]; exact sz_of h), strL_app]
theorem p_slSL {a : List Nat} {l h : Option Int} {K : D → P β} (hl : a.length ≤ 100000) : oP (opSl (.str (strL a)) l h) K = K (.str (strL (cut a l h))) := by
  rw [p_slS (by rw [strL_len]; exact sz_of hl), strL_cps]; rfl
theorem p_lenSL {a : List Nat} {K : D → P β} (hl : a.length ≤ 100000) : oP (op1 .len (.str (strL a))) K = K (.int a.length) := by
  rw [p_lenS (by rw [strL_len]; simp [sizeLine]; omega), strL_len]
end
section
variable {T : Tab}

/-! ### is_blank, inner -/
theorem c_is_blank (h : Is1 T "is_blank" X_is_blank) {n : Nat} (hn : 1 ≤ n) (t : Tm) : callC T n "is_blank" [toD t] = .ok (.bl (isB t), .non) := by
  obtain ⟨m, rfl⟩ : ∃ m, n = m + 1 := ⟨n - 1, by omega⟩
  rw [h]
  unfold X_is_blank
  cases t <;> simp only [↓p_addI, ↓p_subI, ↓p_mul, ↓p_div, ↓p_mod, ↓p_pow, ↓p_lt, ↓p_le, ↓p_gt, ↓p_geI, ↓p_max, ↓p_min, ↓p_neg, ↓p_abs, ↓p_intI, ↓p_intB, ↓p_lenL, ↓p_lenT, ↓p_lenS, ↓p_listL, ↓p_listT, ↓p_tupL, ↓p_tupT, ↓p_sum, ↓p_all, ↓p_join, ↓p_isS_S, ↓p_isS_T, ↓p_isD_D, ↓p_isD_N, ↓p_isN_N, ↓p_isN_D, ↓p_isN_S, ↓p_isN_T, ↓p_isN_L, ↓p_nN_N, ↓p_nN_D, ↓p_nN_S, ↓p_nN_T, ↓p_nN_L, ↓p_dict, ↓p_lenD, ↓p_addS, ↓p_addL, ↓p_addT, ↓p_idx0L, ↓p_idx0T, ↓p_idx1L, ↓p_idx1T, ↓p_idx2T, ↓p_idx2L, ↓p_idxL, ↓p_idxT, ↓p_idxS, ↓p_slL, ↓p_slT, ↓p_slS, ↓p_B, ↓p_I, ↓p_S, ↓p_L, ↓p_T, ↓p_TLt, ↓p_TLl, ↓p_D, ↓p_ldL, ↓p_ldD, ↓p_if, ↓p_seqL, ↓p_seqT, ↓p_rng, ↓p_enum, ↓p_rev, ↓p_chars, ↓p_items, ↓p_keys, ↓p_zipL, ↓p_zipT, ↓p_opt, ↓p_un1, ↓p_un2, ↓p_un3, ↓p_ct, ↓p_cf, ↓p_eqI, ↓p_neI, P.bind_ok, dv2, z2, dv3, z3, dv4, z4, dv5, z5, dv6, z6, dv7, z7, dv8, z8, dv9, z9, dv10, z10, dv11, z11, dv12, z12, dv13, z13, dv14, z14, dv15, z15, dv16, z16, dv20, z20, dv26, z26, dv30, z30, dv40, z40, dv50, z50, dv60, z60, dv100, z100, dv1000, z1000, dv4800, z4800, dv2147483647, z2147483647, dv2147483629, z2147483629, dv2147483587, z2147483587, toD, isB]
structure HI (T : Tab) : Prop where
  bk : Is1 T "is_blank" X_is_blank
  inn : Is1 T "inner" X_inner
theorem c_inner (h : HI T) {n : Nat} (hn : 2 ≤ n) (t : Tm) : callC T n "inner" [toD t] = .ok (.lst ((kids t).map toD), .non) := by
  obtain ⟨m, rfl⟩ : ∃ m, n = m + 1 := ⟨n - 1, by omega⟩
  rw [h.inn]
  unfold X_inner
  have e := c_is_blank h.bk (n := m) (by omega) t
  cases t with
  | bl s => simp only [↓p_addI, ↓p_subI, ↓p_mul, ↓p_div, ↓p_mod, ↓p_pow, ↓p_lt, ↓p_le, ↓p_gt, ↓p_geI, ↓p_max, ↓p_min, ↓p_neg, ↓p_abs, ↓p_intI, ↓p_intB, ↓p_lenL, ↓p_lenT, ↓p_lenS, ↓p_listL, ↓p_listT, ↓p_tupL, ↓p_tupT, ↓p_sum, ↓p_all, ↓p_join, ↓p_isS_S, ↓p_isS_T, ↓p_isD_D, ↓p_isD_N, ↓p_isN_N, ↓p_isN_D, ↓p_isN_S, ↓p_isN_T, ↓p_isN_L, ↓p_nN_N, ↓p_nN_D, ↓p_nN_S, ↓p_nN_T, ↓p_nN_L, ↓p_dict, ↓p_lenD, ↓p_addS, ↓p_addL, ↓p_addT, ↓p_idx0L, ↓p_idx0T, ↓p_idx1L, ↓p_idx1T, ↓p_idx2T, ↓p_idx2L, ↓p_idxL, ↓p_idxT, ↓p_idxS, ↓p_slL, ↓p_slT, ↓p_slS, ↓p_B, ↓p_I, ↓p_S, ↓p_L, ↓p_T, ↓p_TLt, ↓p_TLl, ↓p_D, ↓p_ldL, ↓p_ldD, ↓p_if, ↓p_seqL, ↓p_seqT, ↓p_rng, ↓p_enum, ↓p_rev, ↓p_chars, ↓p_items, ↓p_keys, ↓p_zipL, ↓p_zipT, ↓p_opt, ↓p_un1, ↓p_un2, ↓p_un3, ↓p_ct, ↓p_cf, ↓p_eqI, ↓p_neI, P.bind_ok, dv2, z2, dv3, z3, dv4, z4, dv5, z5, dv6, z6, dv7, z7, dv8, z8, dv9, z9, dv10, z10, dv11, z11, dv12, z12, dv13, z13, dv14, z14, dv15, z15, dv16, z16, dv20, z20, dv26, z26, dv30, z30, dv40, z40, dv50, z50, dv60, z60, dv100, z100, dv1000, z1000, dv4800, z4800, dv2147483647, z2147483647, dv2147483629, z2147483629, dv2147483587, z2147483587, ↓bk e, isB, kids, List.map_nil]
  | nd s ps => simp only [↓p_addI, ↓p_subI, ↓p_mul, ↓p_div, ↓p_mod, ↓p_pow, ↓p_lt, ↓p_le, ↓p_gt, ↓p_geI, ↓p_max, ↓p_min, ↓p_neg, ↓p_abs, ↓p_intI, ↓p_intB, ↓p_lenL, ↓p_lenT, ↓p_lenS, ↓p_listL, ↓p_listT, ↓p_tupL, ↓p_tupT, ↓p_sum, ↓p_all, ↓p_join, ↓p_isS_S, ↓p_isS_T, ↓p_isD_D, ↓p_isD_N, ↓p_isN_N, ↓p_isN_D, ↓p_isN_S, ↓p_isN_T, ↓p_isN_L, ↓p_nN_N, ↓p_nN_D, ↓p_nN_S, ↓p_nN_T, ↓p_nN_L, ↓p_dict, ↓p_lenD, ↓p_addS, ↓p_addL, ↓p_addT, ↓p_idx0L, ↓p_idx0T, ↓p_idx1L, ↓p_idx1T, ↓p_idx2T, ↓p_idx2L, ↓p_idxL, ↓p_idxT, ↓p_idxS, ↓p_slL, ↓p_slT, ↓p_slS, ↓p_B, ↓p_I, ↓p_S, ↓p_L, ↓p_T, ↓p_TLt, ↓p_TLl, ↓p_D, ↓p_ldL, ↓p_ldD, ↓p_if, ↓p_seqL, ↓p_seqT, ↓p_rng, ↓p_enum, ↓p_rev, ↓p_chars, ↓p_items, ↓p_keys, ↓p_zipL, ↓p_zipT, ↓p_opt, ↓p_un1, ↓p_un2, ↓p_un3, ↓p_ct, ↓p_cf, ↓p_eqI, ↓p_neI, P.bind_ok, dv2, z2, dv3, z3, dv4, z4, dv5, z5, dv6, z6, dv7, z7, dv8, z8, dv9, z9, dv10, z10, dv11, z11, dv12, z12, dv13, z13, dv14, z14, dv15, z15, dv16, z16, dv20, z20, dv26, z26, dv30, z30, dv40, z40, dv50, z50, dv60, z60, dv100, z100, dv1000, z1000, dv4800, z4800, dv2147483647, z2147483647, dv2147483629, z2147483629, dv2147483587, z2147483587, ↓bk e, isB, kids, toD, cut_tail, toDs_map]

/-! ### filled -/
abbrev Fi := List (Str × Tm)
def fiD (φ : Fi) : List (D × D) := φ.map fun p => (.str p.1, toD p.2)
def look : Fi → Str → Option Tm
  | [], _ => none
  | (k, v) :: r, x => if k = x then some v else look r x
mutual
def fillT (φ : Fi) : Tm → Tm
  | .bl s => (look φ s).getD (.bl s)
  | .nd s ps => .nd s (fillTs φ ps)
def fillTs (φ : Fi) : List Tm → List Tm
  | [] => []
  | t :: ts => fillT φ t :: fillTs φ ts
end
theorem fillTs_map (φ : Fi) : ∀ ts, fillTs φ ts = ts.map (fillT φ)
  | [] => rfl
  | t :: ts => by rw [fillTs, fillTs_map φ ts]; rfl
theorem strK_fi (φ : Fi) : strK (fiD φ) = true := by
  simp [strK, fiD]
theorem eqS (x y : Str) : D.eq (.str x) (.str y) = decide (x = y) := eq_dec rfl rfl (by simp)
theorem dget_fi (φ : Fi) (s : Str) : dget (fiD φ) (.str s) = (look φ s).map toD := by
  induction φ with
  | nil => rfl
  | cons p φ ih =>
    obtain ⟨k, v⟩ := p
    show (if D.eq (.str k) (.str s) then some (toD v) else dget (fiD φ) (.str s)) = _
    rw [eqS, look]
    by_cases e : k = s
    · simp [e]
    · simp [e, ih]
theorem getD_fi (φ : Fi) (s : Str) : ((dget (fiD φ) (.str s)).getD (.str s)) = toD (fillT φ (.bl s)) := by
  rw [dget_fi, fillT]
  cases look φ s <;> rfl
theorem tup_cons (s : Str) (ps : List Tm) : D.tup ([D.str s] ++ ps.map toD) = toD (.nd s ps) := by rw [toD, toDs_map]; rfl
structure HF (T : Tab) : Prop extends HI T where
  fi : Is2 T "filled" X_filled
theorem c_filled (h : HF T) (φ : Fi) : ∀ (n : Nat) (t : Tm), dep t + 2 ≤ n → parts t ≤ 90000 → callC T n "filled" [toD t, .dic (fiD φ)] = .ok (toD (fillT φ t), .non) := by
  intro n
  induction n with
  | zero => intro t hd; omega
  | succ m ih =>
    intro t hd ht
    rw [h.fi]
    unfold X_filled
    have e := c_is_blank h.bk (n := m) (by omega) t
    have hk := kids_len t
    cases t with
    | bl s =>
      have hs : (!(!strK (fiD φ) || false)) = true := by rw [strK_fi]; rfl
      simp only [↓p_addI, ↓p_subI, ↓p_mul, ↓p_div, ↓p_mod, ↓p_pow, ↓p_lt, ↓p_le, ↓p_gt, ↓p_geI, ↓p_max, ↓p_min, ↓p_neg, ↓p_abs, ↓p_intI, ↓p_intB, ↓p_lenL, ↓p_lenT, ↓p_lenS, ↓p_listL, ↓p_listT, ↓p_tupL, ↓p_tupT, ↓p_sum, ↓p_all, ↓p_join, ↓p_isS_S, ↓p_isS_T, ↓p_isD_D, ↓p_isD_N, ↓p_isN_N, ↓p_isN_D, ↓p_isN_S, ↓p_isN_T, ↓p_isN_L, ↓p_nN_N, ↓p_nN_D, ↓p_nN_S, ↓p_nN_T, ↓p_nN_L, ↓p_dict, ↓p_lenD, ↓p_addS, ↓p_addL, ↓p_addT, ↓p_idx0L, ↓p_idx0T, ↓p_idx1L, ↓p_idx1T, ↓p_idx2T, ↓p_idx2L, ↓p_idxL, ↓p_idxT, ↓p_idxS, ↓p_slL, ↓p_slT, ↓p_slS, ↓p_B, ↓p_I, ↓p_S, ↓p_L, ↓p_T, ↓p_TLt, ↓p_TLl, ↓p_D, ↓p_ldL, ↓p_ldD, ↓p_if, ↓p_seqL, ↓p_seqT, ↓p_rng, ↓p_enum, ↓p_rev, ↓p_chars, ↓p_items, ↓p_keys, ↓p_zipL, ↓p_zipT, ↓p_opt, ↓p_un1, ↓p_un2, ↓p_un3, ↓p_ct, ↓p_cf, ↓p_eqI, ↓p_neI, P.bind_ok, dv2, z2, dv3, z3, dv4, z4, dv5, z5, dv6, z6, dv7, z7, dv8, z8, dv9, z9, dv10, z10, dv11, z11, dv12, z12, dv13, z13, dv14, z14, dv15, z15, dv16, z16, dv20, z20, dv26, z26, dv30, z30, dv40, z40, dv50, z50, dv60, z60, dv100, z100, dv1000, z1000, dv4800, z4800, dv2147483647, z2147483647, dv2147483629, z2147483629, dv2147483587, z2147483587, ↓bk e, isB, hs, toD, getD_fi]
    | nd s ps =>
      have ei := c_inner h.toHI (n := m) (by have := dep_pos (.nd s ps); omega) (.nd s ps)
      have hk' : ps.length ≤ 90000 := by simp only [kids] at hk; omega
      simp only [↓p_addI, ↓p_subI, ↓p_mul, ↓p_div, ↓p_mod, ↓p_pow, ↓p_lt, ↓p_le, ↓p_gt, ↓p_geI, ↓p_max, ↓p_min, ↓p_neg, ↓p_abs, ↓p_intI, ↓p_intB, ↓p_lenL, ↓p_lenT, ↓p_lenS, ↓p_listL, ↓p_listT, ↓p_tupL, ↓p_tupT, ↓p_sum, ↓p_all, ↓p_join, ↓p_isS_S, ↓p_isS_T, ↓p_isD_D, ↓p_isD_N, ↓p_isN_N, ↓p_isN_D, ↓p_isN_S, ↓p_isN_T, ↓p_isN_L, ↓p_nN_N, ↓p_nN_D, ↓p_nN_S, ↓p_nN_T, ↓p_nN_L, ↓p_dict, ↓p_lenD, ↓p_addS, ↓p_addL, ↓p_addT, ↓p_idx0L, ↓p_idx0T, ↓p_idx1L, ↓p_idx1T, ↓p_idx2T, ↓p_idx2L, ↓p_idxL, ↓p_idxT, ↓p_idxS, ↓p_slL, ↓p_slT, ↓p_slS, ↓p_B, ↓p_I, ↓p_S, ↓p_L, ↓p_T, ↓p_TLt, ↓p_TLl, ↓p_D, ↓p_ldL, ↓p_ldD, ↓p_if, ↓p_seqL, ↓p_seqT, ↓p_rng, ↓p_enum, ↓p_rev, ↓p_chars, ↓p_items, ↓p_keys, ↓p_zipL, ↓p_zipT, ↓p_opt, ↓p_un1, ↓p_un2, ↓p_un3, ↓p_ct, ↓p_cf, ↓p_eqI, ↓p_neI, P.bind_ok, dv2, z2, dv3, z3, dv4, z4, dv5, z5, dv6, z6, dv7, z7, dv8, z8, dv9, z9, dv10, z10, dv11, z11, dv12, z12, dv13, z13, dv14, z14, dv15, z15, dv16, z16, dv20, z20, dv26, z26, dv30, z30, dv40, z40, dv50, z50, dv60, z60, dv100, z100, dv1000, z1000, dv4800, z4800, dv2147483647, z2147483647, dv2147483629, z2147483629, dv2147483587, z2147483587, ↓bk e, isB]
      simp only [↓p_addI, ↓p_subI, ↓p_mul, ↓p_div, ↓p_mod, ↓p_pow, ↓p_lt, ↓p_le, ↓p_gt, ↓p_geI, ↓p_max, ↓p_min, ↓p_neg, ↓p_abs, ↓p_intI, ↓p_intB, ↓p_lenL, ↓p_lenT, ↓p_lenS, ↓p_listL, ↓p_listT, ↓p_tupL, ↓p_tupT, ↓p_sum, ↓p_all, ↓p_join, ↓p_isS_S, ↓p_isS_T, ↓p_isD_D, ↓p_isD_N, ↓p_isN_N, ↓p_isN_D, ↓p_isN_S, ↓p_isN_T, ↓p_isN_L, ↓p_nN_N, ↓p_nN_D, ↓p_nN_S, ↓p_nN_T, ↓p_nN_L, ↓p_dict, ↓p_lenD, ↓p_addS, ↓p_addL, ↓p_addT, ↓p_idx0L, ↓p_idx0T, ↓p_idx1L, ↓p_idx1T, ↓p_idx2T, ↓p_idx2L, ↓p_idxL, ↓p_idxT, ↓p_idxS, ↓p_slL, ↓p_slT, ↓p_slS, ↓p_B, ↓p_I, ↓p_S, ↓p_L, ↓p_T, ↓p_TLt, ↓p_TLl, ↓p_D, ↓p_ldL, ↓p_ldD, ↓p_if, ↓p_seqL, ↓p_seqT, ↓p_rng, ↓p_enum, ↓p_rev, ↓p_chars, ↓p_items, ↓p_keys, ↓p_zipL, ↓p_zipT, ↓p_opt, ↓p_un1, ↓p_un2, ↓p_un3, ↓p_ct, ↓p_cf, ↓p_eqI, ↓p_neI, P.bind_ok, dv2, z2, dv3, z3, dv4, z4, dv5, z5, dv6, z6, dv7, z7, dv8, z8, dv9, z9, dv10, z10, dv11, z11, dv12, z12, dv13, z13, dv14, z14, dv15, z15, dv16, z16, dv20, z20, dv26, z26, dv30, z30, dv40, z40, dv50, z50, dv60, z60, dv100, z100, dv1000, z1000, dv4800, z4800, dv2147483647, z2147483647, dv2147483629, z2147483629, dv2147483587, z2147483587, ↓bk ei, toD, kids]
      rw [p_if (by rw [List.length_map]; exact sz_of (by omega))]
      refine (lc0_map ps toD (fun u => toD (fillT φ u)) fun u hu k => ?_).trans ?_
      · have hu' : u ∈ kids (.nd s ps) := hu
        have := ih u (by have := dep_kid hu'; omega) (by have := parts_kid hu'; omega)
        simp only [↓bk this]
      · try simp only [↓p_addI, ↓p_subI, ↓p_mul, ↓p_div, ↓p_mod, ↓p_pow, ↓p_lt, ↓p_le, ↓p_gt, ↓p_geI, ↓p_max, ↓p_min, ↓p_neg, ↓p_abs, ↓p_intI, ↓p_intB, ↓p_lenL, ↓p_lenT, ↓p_lenS, ↓p_listL, ↓p_listT, ↓p_tupL, ↓p_tupT, ↓p_sum, ↓p_all, ↓p_join, ↓p_isS_S, ↓p_isS_T, ↓p_isD_D, ↓p_isD_N, ↓p_isN_N, ↓p_isN_D, ↓p_isN_S, ↓p_isN_T, ↓p_isN_L, ↓p_nN_N, ↓p_nN_D, ↓p_nN_S, ↓p_nN_T, ↓p_nN_L, ↓p_dict, ↓p_lenD, ↓p_addS, ↓p_addL, ↓p_addT, ↓p_idx0L, ↓p_idx0T, ↓p_idx1L, ↓p_idx1T, ↓p_idx2T, ↓p_idx2L, ↓p_idxL, ↓p_idxT, ↓p_idxS, ↓p_slL, ↓p_slT, ↓p_slS, ↓p_B, ↓p_I, ↓p_S, ↓p_L, ↓p_T, ↓p_TLt, ↓p_TLl, ↓p_D, ↓p_ldL, ↓p_ldD, ↓p_if, ↓p_seqL, ↓p_seqT, ↓p_rng, ↓p_enum, ↓p_rev, ↓p_chars, ↓p_items, ↓p_keys, ↓p_zipL, ↓p_zipT, ↓p_opt, ↓p_un1, ↓p_un2, ↓p_un3, ↓p_ct, ↓p_cf, ↓p_eqI, ↓p_neI, P.bind_ok, dv2, z2, dv3, z3, dv4, z4, dv5, z5, dv6, z6, dv7, z7, dv8, z8, dv9, z9, dv10, z10, dv11, z11, dv12, z12, dv13, z13, dv14, z14, dv15, z15, dv16, z16, dv20, z20, dv26, z26, dv30, z30, dv40, z40, dv50, z50, dv60, z60, dv100, z100, dv1000, z1000, dv4800, z4800, dv2147483647, z2147483647, dv2147483629, z2147483629, dv2147483587, z2147483587]
        rw [p_addT (by simp; exact sz_of (by omega))]
        have : (ps.map fun u => toD (fillT φ u)) = (ps.map (fillT φ)).map toD := by rw [List.map_map]; rfl
        rw [this, fillT, fillTs_map, tup_cons]
theorem c_law_filled (h : Is2 T "_law_filled" X__law_filled) (φ : Fi) : ∀ (n : Nat) (t : Tm), dep t + 2 ≤ n → parts t ≤ 90000 → callC T n "_law_filled" [toD t, .dic (fiD φ)] = .ok (toD (fillT φ t), .non) := by
  intro n
  induction n with
  | zero => intro t hd; omega
  | succ m ih =>
    intro t hd ht
    rw [h]
    unfold X__law_filled
    have hk := kids_len t
    cases t with
    | bl s =>
      have hs : (!(!strK (fiD φ) || false)) = true := by rw [strK_fi]; rfl
      simp only [↓p_addI, ↓p_subI, ↓p_mul, ↓p_div, ↓p_mod, ↓p_pow, ↓p_lt, ↓p_le, ↓p_gt, ↓p_geI, ↓p_max, ↓p_min, ↓p_neg, ↓p_abs, ↓p_intI, ↓p_intB, ↓p_lenL, ↓p_lenT, ↓p_lenS, ↓p_listL, ↓p_listT, ↓p_tupL, ↓p_tupT, ↓p_sum, ↓p_all, ↓p_join, ↓p_isS_S, ↓p_isS_T, ↓p_isD_D, ↓p_isD_N, ↓p_isN_N, ↓p_isN_D, ↓p_isN_S, ↓p_isN_T, ↓p_isN_L, ↓p_nN_N, ↓p_nN_D, ↓p_nN_S, ↓p_nN_T, ↓p_nN_L, ↓p_dict, ↓p_lenD, ↓p_addS, ↓p_addL, ↓p_addT, ↓p_idx0L, ↓p_idx0T, ↓p_idx1L, ↓p_idx1T, ↓p_idx2T, ↓p_idx2L, ↓p_idxL, ↓p_idxT, ↓p_idxS, ↓p_slL, ↓p_slT, ↓p_slS, ↓p_B, ↓p_I, ↓p_S, ↓p_L, ↓p_T, ↓p_TLt, ↓p_TLl, ↓p_D, ↓p_ldL, ↓p_ldD, ↓p_if, ↓p_seqL, ↓p_seqT, ↓p_rng, ↓p_enum, ↓p_rev, ↓p_chars, ↓p_items, ↓p_keys, ↓p_zipL, ↓p_zipT, ↓p_opt, ↓p_un1, ↓p_un2, ↓p_un3, ↓p_ct, ↓p_cf, ↓p_eqI, ↓p_neI, P.bind_ok, dv2, z2, dv3, z3, dv4, z4, dv5, z5, dv6, z6, dv7, z7, dv8, z8, dv9, z9, dv10, z10, dv11, z11, dv12, z12, dv13, z13, dv14, z14, dv15, z15, dv16, z16, dv20, z20, dv26, z26, dv30, z30, dv40, z40, dv50, z50, dv60, z60, dv100, z100, dv1000, z1000, dv4800, z4800, dv2147483647, z2147483647, dv2147483629, z2147483629, dv2147483587, z2147483587, hs, toD, getD_fi]
    | nd s ps =>
      have hk' : ps.length ≤ 90000 := by simp only [kids] at hk; omega
      simp only [↓p_addI, ↓p_subI, ↓p_mul, ↓p_div, ↓p_mod, ↓p_pow, ↓p_lt, ↓p_le, ↓p_gt, ↓p_geI, ↓p_max, ↓p_min, ↓p_neg, ↓p_abs, ↓p_intI, ↓p_intB, ↓p_lenL, ↓p_lenT, ↓p_lenS, ↓p_listL, ↓p_listT, ↓p_tupL, ↓p_tupT, ↓p_sum, ↓p_all, ↓p_join, ↓p_isS_S, ↓p_isS_T, ↓p_isD_D, ↓p_isD_N, ↓p_isN_N, ↓p_isN_D, ↓p_isN_S, ↓p_isN_T, ↓p_isN_L, ↓p_nN_N, ↓p_nN_D, ↓p_nN_S, ↓p_nN_T, ↓p_nN_L, ↓p_dict, ↓p_lenD, ↓p_addS, ↓p_addL, ↓p_addT, ↓p_idx0L, ↓p_idx0T, ↓p_idx1L, ↓p_idx1T, ↓p_idx2T, ↓p_idx2L, ↓p_idxL, ↓p_idxT, ↓p_idxS, ↓p_slL, ↓p_slT, ↓p_slS, ↓p_B, ↓p_I, ↓p_S, ↓p_L, ↓p_T, ↓p_TLt, ↓p_TLl, ↓p_D, ↓p_ldL, ↓p_ldD, ↓p_if, ↓p_seqL, ↓p_seqT, ↓p_rng, ↓p_enum, ↓p_rev, ↓p_chars, ↓p_items, ↓p_keys, ↓p_zipL, ↓p_zipT, ↓p_opt, ↓p_un1, ↓p_un2, ↓p_un3, ↓p_ct, ↓p_cf, ↓p_eqI, ↓p_neI, P.bind_ok, dv2, z2, dv3, z3, dv4, z4, dv5, z5, dv6, z6, dv7, z7, dv8, z8, dv9, z9, dv10, z10, dv11, z11, dv12, z12, dv13, z13, dv14, z14, dv15, z15, dv16, z16, dv20, z20, dv26, z26, dv30, z30, dv40, z40, dv50, z50, dv60, z60, dv100, z100, dv1000, z1000, dv4800, z4800, dv2147483647, z2147483647, dv2147483629, z2147483629, dv2147483587, z2147483587, toD, cut_tail, cut_one, toDs_map]
      rw [p_if (by rw [List.length_map]; exact sz_of (by omega))]
      refine (lc0_map ps toD (fun u => toD (fillT φ u)) fun u hu k => ?_).trans ?_
      · have hu' : u ∈ kids (.nd s ps) := hu
        have := ih u (by have := dep_kid hu'; omega) (by have := parts_kid hu'; omega)
        simp only [↓bk this]
      · try simp only [↓p_addI, ↓p_subI, ↓p_mul, ↓p_div, ↓p_mod, ↓p_pow, ↓p_lt, ↓p_le, ↓p_gt, ↓p_geI, ↓p_max, ↓p_min, ↓p_neg, ↓p_abs, ↓p_intI, ↓p_intB, ↓p_lenL, ↓p_lenT, ↓p_lenS, ↓p_listL, ↓p_listT, ↓p_tupL, ↓p_tupT, ↓p_sum, ↓p_all, ↓p_join, ↓p_isS_S, ↓p_isS_T, ↓p_isD_D, ↓p_isD_N, ↓p_isN_N, ↓p_isN_D, ↓p_isN_S, ↓p_isN_T, ↓p_isN_L, ↓p_nN_N, ↓p_nN_D, ↓p_nN_S, ↓p_nN_T, ↓p_nN_L, ↓p_dict, ↓p_lenD, ↓p_addS, ↓p_addL, ↓p_addT, ↓p_idx0L, ↓p_idx0T, ↓p_idx1L, ↓p_idx1T, ↓p_idx2T, ↓p_idx2L, ↓p_idxL, ↓p_idxT, ↓p_idxS, ↓p_slL, ↓p_slT, ↓p_slS, ↓p_B, ↓p_I, ↓p_S, ↓p_L, ↓p_T, ↓p_TLt, ↓p_TLl, ↓p_D, ↓p_ldL, ↓p_ldD, ↓p_if, ↓p_seqL, ↓p_seqT, ↓p_rng, ↓p_enum, ↓p_rev, ↓p_chars, ↓p_items, ↓p_keys, ↓p_zipL, ↓p_zipT, ↓p_opt, ↓p_un1, ↓p_un2, ↓p_un3, ↓p_ct, ↓p_cf, ↓p_eqI, ↓p_neI, P.bind_ok, dv2, z2, dv3, z3, dv4, z4, dv5, z5, dv6, z6, dv7, z7, dv8, z8, dv9, z9, dv10, z10, dv11, z11, dv12, z12, dv13, z13, dv14, z14, dv15, z15, dv16, z16, dv20, z20, dv26, z26, dv30, z30, dv40, z40, dv50, z50, dv60, z60, dv100, z100, dv1000, z1000, dv4800, z4800, dv2147483647, z2147483647, dv2147483629, z2147483629, dv2147483587, z2147483587]
        rw [p_addT (by simp; exact sz_of (by omega))]
        have : (ps.map fun u => toD (fillT φ u)) = (ps.map (fillT φ)).map toD := by rw [List.map_map]; rfl
        rw [this, fillT, fillTs_map, tup_cons]

/-! ### the cell -/
theorem c_cell (h : Is2 T "_law_cell" X__law_cell) {n : Nat} (hn : 1 ≤ n) (ns : List Int) (j : Nat) : callC T n "_law_cell" [.lst (ns.map D.int), .int j] = .ok (.int (ns.getD j 0), .non) := by
  obtain ⟨m, rfl⟩ : ∃ m, n = m + 1 := ⟨n - 1, by omega⟩
  rw [h]
  unfold X__law_cell
  simp only [↓p_addI, ↓p_subI, ↓p_mul, ↓p_div, ↓p_mod, ↓p_pow, ↓p_lt, ↓p_le, ↓p_gt, ↓p_geI, ↓p_max, ↓p_min, ↓p_neg, ↓p_abs, ↓p_intI, ↓p_intB, ↓p_lenL, ↓p_lenT, ↓p_lenS, ↓p_listL, ↓p_listT, ↓p_tupL, ↓p_tupT, ↓p_sum, ↓p_all, ↓p_join, ↓p_isS_S, ↓p_isS_T, ↓p_isD_D, ↓p_isD_N, ↓p_isN_N, ↓p_isN_D, ↓p_isN_S, ↓p_isN_T, ↓p_isN_L, ↓p_nN_N, ↓p_nN_D, ↓p_nN_S, ↓p_nN_T, ↓p_nN_L, ↓p_dict, ↓p_lenD, ↓p_addS, ↓p_addL, ↓p_addT, ↓p_idx0L, ↓p_idx0T, ↓p_idx1L, ↓p_idx1T, ↓p_idx2T, ↓p_idx2L, ↓p_idxL, ↓p_idxT, ↓p_idxS, ↓p_slL, ↓p_slT, ↓p_slS, ↓p_B, ↓p_I, ↓p_S, ↓p_L, ↓p_T, ↓p_TLt, ↓p_TLl, ↓p_D, ↓p_ldL, ↓p_ldD, ↓p_if, ↓p_seqL, ↓p_seqT, ↓p_rng, ↓p_enum, ↓p_rev, ↓p_chars, ↓p_items, ↓p_keys, ↓p_zipL, ↓p_zipT, ↓p_opt, ↓p_un1, ↓p_un2, ↓p_un3, ↓p_ct, ↓p_cf, ↓p_eqI, ↓p_neI, P.bind_ok, dv2, z2, dv3, z3, dv4, z4, dv5, z5, dv6, z6, dv7, z7, dv8, z8, dv9, z9, dv10, z10, dv11, z11, dv12, z12, dv13, z13, dv14, z14, dv15, z15, dv16, z16, dv20, z20, dv26, z26, dv30, z30, dv40, z40, dv50, z50, dv60, z60, dv100, z100, dv1000, z1000, dv4800, z4800, dv2147483647, z2147483647, dv2147483629, z2147483629, dv2147483587, z2147483587, List.length_map]
  by_cases hj : j < ns.length
  · have e : L2.atI (ns.map D.int) j = some (.int (ns.getD j 0)) := atI_map (by omega) (by omega)
    rw [p_ci (decide_eq_true (by omega)), p_idxL e]
  · have e : ns.getD j 0 = 0 := by rw [List.getD_eq_getElem?_getD, List.getElem?_eq_none (by omega)]; rfl
    rw [p_cn (decide_eq_false (by omega)), e]
def cellF (ns : List Int) (j : Int) : Int := ns.getD j.toNat 0
theorem c_cellF (h : Is2 T "_law_cell" X__law_cell) {n : Nat} (hn : 1 ≤ n) (ns : List Int) (j : Int) (hj : 0 ≤ j) : callC T n "_law_cell" [.lst (ns.map D.int), .int j] = .ok (.int (cellF ns j), .non) := by
  have := c_cell h hn ns j.toNat
  rw [show ((j.toNat : Nat) : Int) = j by omega] at this
  exact this
end
end Pu
end

section
set_option Elab.async false
set_option linter.all false
set_option maxRecDepth 100000
set_option maxHeartbeats 1000000
namespace Pu
open En PySem Sh
theorem dvx {x : Nat} (hx6 : x < 6) : divOk (3 + (x : Int) * x) = true := by
  have : x = 0 ∨ x = 1 ∨ x = 2 ∨ x = 3 ∨ x = 4 ∨ x = 5 := by omega
  rcases this with rfl | rfl | rfl | rfl | rfl | rfl <;> decide +kernel
theorem join_map {α : Type} (f : α → List Nat) : ∀ xs : List α, joinS (xs.map fun x => strL (f x)) = strL (xs.flatMap f)
  | [] => rfl
  | x :: xs => by simp [joinS, join_map f xs, strL_app]

/-! ### words -/
def wstep (s : List Nat × Int) : List Nat × Int := (s.1 ++ [abcAt (s.2 / 7 % 26)], s.2 / 11)
def wloop (m : Nat) (s : List Nat × Int) : List Nat × Int := (List.range m).foldl (fun s _ => wstep s) s
theorem wloop_len (m : Nat) (s : List Nat × Int) : (wloop m s).1.length = s.1.length + m := by
  unfold wloop
  induction m generalizing s with
  | zero => rfl
  | succ m ih => rw [List.range_succ, List.foldl_append, List.foldl_cons, List.foldl_nil]; simp only [wstep, List.length_append, List.length_cons, List.length_nil]; have := ih s; simp only [wstep] at this; omega
theorem wloop_let (m : Nat) (s : List Nat × Int) (h : ∀ c ∈ s.1, 97 ≤ c ∧ c ≤ 122) : ∀ c ∈ (wloop m s).1, 97 ≤ c ∧ c ≤ 122 := by
  unfold wloop
  induction m generalizing s with
  | zero => exact h
  | succ m ih =>
    rw [List.range_succ, List.foldl_append]
    intro c hc
    simp only [List.foldl_cons, List.foldl_nil, wstep] at hc
    rcases List.mem_append.mp hc with hc | hc
    · exact ih s h c hc
    · rw [List.mem_singleton.mp hc]; exact abcAt_all _
def wnum (c : Int) : Int := c * 1000000007 % 1000000000000000000
def wbase (c : Int) : List Nat × Int := wloop (wnum c % 7).toNat ([], wnum c)
def words (c : Int) : List (List Nat) := if (wbase c).2 % 3 = 0 then (List.range 5).map fun k => ((List.range 6).map fun k : Nat => abcAt ((wbase c).2 / (3 + (k : Int) * k) % 26)).take (k + 1)
  else (List.range 5).map fun k : Nat => (wbase c).1.take ((wbase c).2 / 7 % ((wbase c).1.length + 1)).toNat ++ [abcAt (((wbase c).2 / 5 + 5 * k) % 26)] ++ (wbase c).1.drop ((wbase c).2 / 7 % ((wbase c).1.length + 1)).toNat
theorem words_len (c : Int) : (words c).length = 5 := by
  unfold words; split <;> simp
theorem words_let (c : Int) : ∀ w ∈ words c, ∀ x ∈ w, 97 ≤ x ∧ x ≤ 122 := by
  intro w hw x hx
  unfold words at hw
  split at hw
  · obtain ⟨k, _, rfl⟩ := List.mem_map.mp hw
    obtain ⟨j, _, rfl⟩ := List.mem_map.mp (List.mem_of_mem_take hx)
    exact abcAt_all _
  · obtain ⟨k, _, rfl⟩ := List.mem_map.mp hw
    have hb : ∀ c' ∈ (wbase c).1, 97 ≤ c' ∧ c' ≤ 122 := wloop_let _ _ (fun _ h => nomatch h)
    rcases List.mem_append.mp hx with hx | hx
    · rcases List.mem_append.mp hx with hx | hx
      · exact hb x (List.mem_of_mem_take hx)
      · rw [List.mem_singleton.mp hx]; exact abcAt_all _
    · exact hb x (List.mem_of_mem_drop hx)
section
variable {T : Tab}
theorem c_words (h : Is1 T "_law_words" X__law_words) {n : Nat} (hn : 1 ≤ n) (c : Int) : callC T n "_law_words" [.int c] = .ok (.lst ((words c).map fun w => .str (strL w)), .non) := by
  obtain ⟨m, rfl⟩ : ∃ m, n = m + 1 := ⟨n - 1, by omega⟩
  rw [h]
  unfold X__law_words
  have h18 : (10 : Int) ^ Int.toNat 18 = 1000000000000000000 := by decide
  simp only [↓p_addI, ↓p_subI, ↓p_mul, ↓p_div, ↓p_mod, ↓p_pow, ↓p_lt, ↓p_le, ↓p_gt, ↓p_geI, ↓p_max, ↓p_min, ↓p_neg, ↓p_abs, ↓p_intI, ↓p_intB, ↓p_lenL, ↓p_lenT, ↓p_lenS, ↓p_listL, ↓p_listT, ↓p_tupL, ↓p_tupT, ↓p_sum, ↓p_all, ↓p_join, ↓p_isS_S, ↓p_isS_T, ↓p_isD_D, ↓p_isD_N, ↓p_isN_N, ↓p_isN_D, ↓p_isN_S, ↓p_isN_T, ↓p_isN_L, ↓p_nN_N, ↓p_nN_D, ↓p_nN_S, ↓p_nN_T, ↓p_nN_L, ↓p_dict, ↓p_lenD, ↓p_addS, ↓p_addL, ↓p_addT, ↓p_idx0L, ↓p_idx0T, ↓p_idx1L, ↓p_idx1T, ↓p_idx2T, ↓p_idx2L, ↓p_idxL, ↓p_idxT, ↓p_idxS, ↓p_slL, ↓p_slT, ↓p_slS, ↓p_B, ↓p_I, ↓p_S, ↓p_L, ↓p_T, ↓p_TLt, ↓p_TLl, ↓p_D, ↓p_ldL, ↓p_ldD, ↓p_if, ↓p_seqL, ↓p_seqT, ↓p_rng, ↓p_enum, ↓p_rev, ↓p_chars, ↓p_items, ↓p_keys, ↓p_zipL, ↓p_zipT, ↓p_opt, ↓p_un1, ↓p_un2, ↓p_un3, ↓p_ct, ↓p_cf, ↓p_eqI, ↓p_neI, P.bind_ok, dv2, z2, dv3, z3, dv4, z4, dv5, z5, dv6, z6, dv7, z7, dv8, z8, dv9, z9, dv10, z10, dv11, z11, dv12, z12, dv13, z13, dv14, z14, dv15, z15, dv16, z16, dv20, z20, dv26, z26, dv30, z30, dv40, z40, dv50, z50, dv60, z60, dv100, z100, dv1000, z1000, dv4800, z4800, dv2147483647, z2147483647, dv2147483629, z2147483629, dv2147483587, z2147483587, mu1, pw1, h18]
  rw [p_mod (by decide)]
  rw [show c * 1000000007 % 1000000000000000000 = wnum c from rfl]
  have w7 : 0 ≤ wnum c % 7 ∧ wnum c % 7 < 7 := by omega
  rw [p_mod (by decide), p_rng (by omega) (by omega), p_if (by rw [rangeD_len]; exact sz_of (by omega)), rangeD0, emp_str]
  refine (loop2_fold (List.range (wnum c % 7).toNat) (fun i : Nat => .int i) (fun s => .int s.2) (fun s => .str (strL s.1)) (fun s _ => wstep s) (fun i s => s.1.length = i) ([], wnum c) rfl (fun i s x hs hx k => ?_) (fun i s x hs hx => by simp [wstep, hs])).trans ?_
  · have hi := ix_lt hx
    simp only [List.length_range] at hi
    simp only [↓p_addI, ↓p_subI, ↓p_mul, ↓p_div, ↓p_mod, ↓p_pow, ↓p_lt, ↓p_le, ↓p_gt, ↓p_geI, ↓p_max, ↓p_min, ↓p_neg, ↓p_abs, ↓p_intI, ↓p_intB, ↓p_lenL, ↓p_lenT, ↓p_lenS, ↓p_listL, ↓p_listT, ↓p_tupL, ↓p_tupT, ↓p_sum, ↓p_all, ↓p_join, ↓p_isS_S, ↓p_isS_T, ↓p_isD_D, ↓p_isD_N, ↓p_isN_N, ↓p_isN_D, ↓p_isN_S, ↓p_isN_T, ↓p_isN_L, ↓p_nN_N, ↓p_nN_D, ↓p_nN_S, ↓p_nN_T, ↓p_nN_L, ↓p_dict, ↓p_lenD, ↓p_addS, ↓p_addL, ↓p_addT, ↓p_idx0L, ↓p_idx0T, ↓p_idx1L, ↓p_idx1T, ↓p_idx2T, ↓p_idx2L, ↓p_idxL, ↓p_idxT, ↓p_idxS, ↓p_slL, ↓p_slT, ↓p_slS, ↓p_B, ↓p_I, ↓p_S, ↓p_L, ↓p_T, ↓p_TLt, ↓p_TLl, ↓p_D, ↓p_ldL, ↓p_ldD, ↓p_if, ↓p_seqL, ↓p_seqT, ↓p_rng, ↓p_enum, ↓p_rev, ↓p_chars, ↓p_items, ↓p_keys, ↓p_zipL, ↓p_zipT, ↓p_opt, ↓p_un1, ↓p_un2, ↓p_un3, ↓p_ct, ↓p_cf, ↓p_eqI, ↓p_neI, P.bind_ok, dv2, z2, dv3, z3, dv4, z4, dv5, z5, dv6, z6, dv7, z7, dv8, z8, dv9, z9, dv10, z10, dv11, z11, dv12, z12, dv13, z13, dv14, z14, dv15, z15, dv16, z16, dv20, z20, dv26, z26, dv30, z30, dv40, z40, dv50, z50, dv60, z60, dv100, z100, dv1000, z1000, dv4800, z4800, dv2147483647, z2147483647, dv2147483629, z2147483629, dv2147483587, z2147483587, dv7, dv11, ↓p_abc]
    rw [p_addSL (by simp [hs]; omega)]
    rfl
  · rw [show List.foldl (fun s _ => wstep s) ([], wnum c) (List.range (wnum c % 7).toNat) = wbase c from rfl]
    have hb : (wbase c).1.length ≤ 6 := by unfold wbase; rw [wloop_len]; simp; omega
    rw [p_div dv7, p_lenSL (by omega), p_addI, p_mod (by omega), p_mod (by decide), p_eqI, p_B]
    generalize hp : (wbase c).2 / 7 % (((wbase c).1.length : Int) + 1) = p
    have hp0 : 0 ≤ p ∧ p ≤ (wbase c).1.length := by
      have := Int.emod_nonneg ((wbase c).2 / 7) (b := ((wbase c).1.length : Int) + 1) (by omega)
      have := Int.emod_lt_of_pos ((wbase c).2 / 7) (b := ((wbase c).1.length : Int) + 1) (by omega)
      omega
    by_cases h3 : (wbase c).2 % 3 = 0
    · rw [p_ci (decide_eq_true h3), p_rng (by decide) (by decide), p_if (by rw [rangeD_len]; exact sz_of (by decide)), rangeD0]
      refine (lc0_map (List.range (Int.toNat 6)) (fun i : Nat => .int i) (fun k : Nat => .str (strL [abcAt ((wbase c).2 / (3 + (k : Int) * k) % 26)])) fun x hx k => ?_).trans ?_
      · have hx6 : x < 6 := by simpa using hx
        rw [p_mul (mul_l (by omega) (by omega)), p_addI, p_div (dvx hx6), p_mod (by decide), p_abc]
      · rw [p_join (xs := (List.range (Int.toNat 6)).map fun k : Nat => strL [abcAt ((wbase c).2 / (3 + (k : Int) * k) % 26)]) (strs_map _ _) (by simp [List.range, List.range.loop, lenAll, strL_len])]
        rw [join_map, show ((List.range (Int.toNat 6)).flatMap fun k : Nat => [abcAt ((wbase c).2 / (3 + (k : Int) * k) % 26)]) = (List.range 6).map fun k : Nat => abcAt ((wbase c).2 / (3 + (k : Int) * k) % 26) from rfl]
        rw [p_rng (by decide) (by decide), p_if (by rw [rangeD_len]; exact sz_of (by decide)), rangeD0]
        refine (lc0_map (List.range (Int.toNat 5)) (fun i : Nat => .int i) (fun k : Nat => .str (strL (((List.range 6).map fun k : Nat => abcAt ((wbase c).2 / (3 + (k : Int) * k) % 26)).take (k + 1)))) fun x hx k => ?_).trans ?_
        · rw [p_addI, p_I, p_slSL (by simp), cut_take _ _ (by omega)]
          rfl
        · unfold words
          rw [if_pos h3, List.map_map]; rfl
    · rw [p_cn (decide_eq_false h3), p_rng (by decide) (by decide), p_if (by rw [rangeD_len]; exact sz_of (by decide)), rangeD0]
      refine (lc0_map (List.range (Int.toNat 5)) (fun i : Nat => .int i) (fun k : Nat => .str (strL ((wbase c).1.take p.toNat ++ [abcAt (((wbase c).2 / 5 + 5 * (k : Int)) % 26)] ++ (wbase c).1.drop p.toNat))) fun x hx k => ?_).trans ?_
      · rw [p_I, p_slSL (by omega), cut_take _ _ hp0.1, p_div dv5, p_mul (mu5 _), p_addI, p_mod (by decide), p_abc, p_addSL (by simp; omega), p_I, p_slSL (by omega), cut_drop _ _ hp0.1, p_addSL (by simp; omega)]
      · unfold words
        rw [if_neg h3, List.map_map, hp]; rfl
end
end Pu
end

section
set_option Elab.async false
set_option linter.all false
set_option maxRecDepth 100000
set_option maxHeartbeats 1000000
namespace Pu
open En PySem Sh

/-! ### sorts, blanks -/
def cnts (c : Int) : List Nat := match (c / 3 % 4).toNat with
  | 0 => [0, 2, 1, 0, 3]
  | 1 => [0, 1, 2, 2, 0]
  | 2 => [0, 3, 1, 1, 0]
  | _ => [0, 2, 0, 1, 1]
def manyS (c : Int) : Nat := (2 + c / 12 % 4).toNat
abbrev So := Str × Nat
def sorts (c : Int) : List So := (List.range (manyS c)).map fun k => (strL ((words c).getD k []), (cnts c).getD k 0)
def soD (p : So) : D := .tup [.str p.1, .int p.2]
theorem cnts_len (c : Int) : (cnts c).length = 5 := by unfold cnts; split <;> rfl
theorem cnts_le (c : Int) (k : Nat) : (cnts c).getD k 0 ≤ 3 := by
  have h : ∀ l ∈ [[0, 2, 1, 0, 3], [0, 1, 2, 2, 0], [0, 3, 1, 1, 0], [0, 2, 0, 1, 1]], ∀ k, List.getD l k 0 ≤ 3 := by
    intro l hl k
    by_cases hk : k < 5
    · have : ∀ l ∈ [[0, 2, 1, 0, 3], [0, 1, 2, 2, 0], [0, 3, 1, 1, 0], [0, 2, 0, 1, 1]], ∀ k, k < 5 → List.getD l k 0 ≤ 3 := by decide
      exact this l hl k hk
    · have : l.length = 5 := by simp at hl; rcases hl with rfl | rfl | rfl | rfl <;> rfl
      rw [List.getD_eq_getElem?_getD, List.getElem?_eq_none (by omega)]; simp
  unfold cnts
  split <;> exact h _ (by simp) k
theorem cnts_0 (c : Int) : (cnts c).getD 0 0 = 0 := by unfold cnts; split <;> rfl
structure SoOk (so : List So) : Prop where
  ne : so ≠ []
  len : so.length ≤ 5
  ok : ∀ p ∈ so, PyData.strOk p.1 = true
  le : ∀ p ∈ so, p.2 ≤ 3
  z : (so.getD 0 (⟨#[]⟩, 0)).2 = 0
theorem sorts_len (c : Int) : 2 ≤ (sorts c).length ∧ (sorts c).length ≤ 5 := by
  simp [sorts, manyS]; omega
theorem sorts_ok (c : Int) : SoOk (sorts c) where
  ne := fun h => by have := (sorts_len c).1; rw [h] at this; simp at this
  len := (sorts_len c).2
  ok := fun p hp => by
    obtain ⟨k, hk, rfl⟩ := List.mem_map.mp hp
    refine strOk_L fun x hx => ?_
    rw [List.getD_eq_getElem?_getD] at hx
    cases hw : (words c)[k]? with
    | none => rw [hw] at hx; simp at hx
    | some w =>
      rw [hw] at hx
      have := words_let c w (List.mem_of_getElem? hw) x (by simpa using hx)
      omega
  le := fun p hp => by
    obtain ⟨k, hk, rfl⟩ := List.mem_map.mp hp
    exact cnts_le c k
  z := by
    have : 0 < manyS c := by unfold manyS; omega
    unfold sorts
    rw [List.getD_eq_getElem?_getD, List.getElem?_map, List.getElem?_range this]
    exact cnts_0 c
def blanksL (c : Int) : List Str := (List.range (1 + c / 26 % 4).toNat).map fun k : Nat => strL [ABCAt ((c % 26 + 7 * (k : Int)) % 26)]
theorem blanks_ok (c : Int) : ∀ s ∈ blanksL c, PyData.strOk s = true := by
  intro s hs
  obtain ⟨k, _, rfl⟩ := List.mem_map.mp hs
  refine strOk_L fun x hx => ?_
  rw [List.mem_singleton.mp hx]
  have := (ABCAt_all ((c % 26 + 7 * (k : Int)) % 26)).2
  omega
theorem blanks_len (c : Int) : 1 ≤ (blanksL c).length ∧ (blanksL c).length ≤ 4 := by
  simp [blanksL]; omega
section
variable {T : Tab}
theorem c_sorts (h : Is1 T "_law_words" X__law_words) (h2 : Is1 T "_law_sorts" X__law_sorts) {n : Nat} (hn : 2 ≤ n) (c : Int) : callC T n "_law_sorts" [.int c] = .ok (.lst ((sorts c).map soD), .non) := by
  obtain ⟨m, rfl⟩ : ∃ m, n = m + 1 := ⟨n - 1, by omega⟩
  rw [h2]
  unfold X__law_sorts
  have ew := c_words h (n := m) (by omega) c
  have ec : L2.atI [D.lst [.int 0, .int 2, .int 1, .int 0, .int 3], .lst [.int 0, .int 1, .int 2, .int 2, .int 0], .lst [.int 0, .int 3, .int 1, .int 1, .int 0], .lst [.int 0, .int 2, .int 0, .int 1, .int 1]] (c / 3 % 4) = some (.lst ((cnts c).map fun n : Nat => .int n)) := by
    unfold cnts
    generalize hz : c / 3 % 4 = z
    have : z = 0 ∨ z = 1 ∨ z = 2 ∨ z = 3 := by omega
    rcases this with rfl | rfl | rfl | rfl <;> rfl
  simp only [↓p_addI, ↓p_subI, ↓p_mul, ↓p_div, ↓p_mod, ↓p_pow, ↓p_lt, ↓p_le, ↓p_gt, ↓p_geI, ↓p_max, ↓p_min, ↓p_neg, ↓p_abs, ↓p_intI, ↓p_intB, ↓p_lenL, ↓p_lenT, ↓p_lenS, ↓p_listL, ↓p_listT, ↓p_tupL, ↓p_tupT, ↓p_sum, ↓p_all, ↓p_join, ↓p_isS_S, ↓p_isS_T, ↓p_isD_D, ↓p_isD_N, ↓p_isN_N, ↓p_isN_D, ↓p_isN_S, ↓p_isN_T, ↓p_isN_L, ↓p_nN_N, ↓p_nN_D, ↓p_nN_S, ↓p_nN_T, ↓p_nN_L, ↓p_dict, ↓p_lenD, ↓p_addS, ↓p_addL, ↓p_addT, ↓p_idx0L, ↓p_idx0T, ↓p_idx1L, ↓p_idx1T, ↓p_idx2T, ↓p_idx2L, ↓p_idxL, ↓p_idxT, ↓p_idxS, ↓p_slL, ↓p_slT, ↓p_slS, ↓p_B, ↓p_I, ↓p_S, ↓p_L, ↓p_T, ↓p_TLt, ↓p_TLl, ↓p_D, ↓p_ldL, ↓p_ldD, ↓p_if, ↓p_seqL, ↓p_seqT, ↓p_rng, ↓p_enum, ↓p_rev, ↓p_chars, ↓p_items, ↓p_keys, ↓p_zipL, ↓p_zipT, ↓p_opt, ↓p_un1, ↓p_un2, ↓p_un3, ↓p_ct, ↓p_cf, ↓p_eqI, ↓p_neI, P.bind_ok, dv2, z2, dv3, z3, dv4, z4, dv5, z5, dv6, z6, dv7, z7, dv8, z8, dv9, z9, dv10, z10, dv11, z11, dv12, z12, dv13, z13, dv14, z14, dv15, z15, dv16, z16, dv20, z20, dv26, z26, dv30, z30, dv40, z40, dv50, z50, dv60, z60, dv100, z100, dv1000, z1000, dv4800, z4800, dv2147483647, z2147483647, dv2147483629, z2147483629, dv2147483587, z2147483587, ↓bk ew]
  rw [p_idxL ec]
  rw [p_rng (by omega) (by omega), p_if (by rw [rangeD_len]; exact sz_of (by omega)), rangeD0]
  refine (lc0_map (List.range (2 + c / 12 % 4).toNat) (fun i : Nat => .int i) (fun k : Nat => soD (strL ((words c).getD k []), (cnts c).getD k 0)) fun x hx k => ?_).trans ?_
  · have hx5 : x < 5 := by have : x < (2 + c / 12 % 4).toNat := by simpa using hx
                           omega
    rw [p_idxL (atI_map (d := []) (by omega) (by rw [words_len]; omega)), p_idxL (atI_map (d := 0) (by omega) (by rw [cnts_len]; omega))]
    rfl
  · unfold sorts manyS
    rw [List.map_map]; rfl
theorem c_blanks (h : Is1 T "_law_blanks" X__law_blanks) {n : Nat} (hn : 1 ≤ n) (c : Int) : callC T n "_law_blanks" [.int c] = .ok (.lst ((blanksL c).map D.str), .non) := by
  obtain ⟨m, rfl⟩ : ∃ m, n = m + 1 := ⟨n - 1, by omega⟩
  rw [h]
  unfold X__law_blanks
  simp only [↓p_addI, ↓p_subI, ↓p_mul, ↓p_div, ↓p_mod, ↓p_pow, ↓p_lt, ↓p_le, ↓p_gt, ↓p_geI, ↓p_max, ↓p_min, ↓p_neg, ↓p_abs, ↓p_intI, ↓p_intB, ↓p_lenL, ↓p_lenT, ↓p_lenS, ↓p_listL, ↓p_listT, ↓p_tupL, ↓p_tupT, ↓p_sum, ↓p_all, ↓p_join, ↓p_isS_S, ↓p_isS_T, ↓p_isD_D, ↓p_isD_N, ↓p_isN_N, ↓p_isN_D, ↓p_isN_S, ↓p_isN_T, ↓p_isN_L, ↓p_nN_N, ↓p_nN_D, ↓p_nN_S, ↓p_nN_T, ↓p_nN_L, ↓p_dict, ↓p_lenD, ↓p_addS, ↓p_addL, ↓p_addT, ↓p_idx0L, ↓p_idx0T, ↓p_idx1L, ↓p_idx1T, ↓p_idx2T, ↓p_idx2L, ↓p_idxL, ↓p_idxT, ↓p_idxS, ↓p_slL, ↓p_slT, ↓p_slS, ↓p_B, ↓p_I, ↓p_S, ↓p_L, ↓p_T, ↓p_TLt, ↓p_TLl, ↓p_D, ↓p_ldL, ↓p_ldD, ↓p_if, ↓p_seqL, ↓p_seqT, ↓p_rng, ↓p_enum, ↓p_rev, ↓p_chars, ↓p_items, ↓p_keys, ↓p_zipL, ↓p_zipT, ↓p_opt, ↓p_un1, ↓p_un2, ↓p_un3, ↓p_ct, ↓p_cf, ↓p_eqI, ↓p_neI, P.bind_ok, dv2, z2, dv3, z3, dv4, z4, dv5, z5, dv6, z6, dv7, z7, dv8, z8, dv9, z9, dv10, z10, dv11, z11, dv12, z12, dv13, z13, dv14, z14, dv15, z15, dv16, z16, dv20, z20, dv26, z26, dv30, z30, dv40, z40, dv50, z50, dv60, z60, dv100, z100, dv1000, z1000, dv4800, z4800, dv2147483647, z2147483647, dv2147483629, z2147483629, dv2147483587, z2147483587]
  rw [p_rng (by omega) (by omega), p_if (by rw [rangeD_len]; exact sz_of (by omega)), rangeD0]
  refine (lc0_map (List.range (1 + c / 26 % 4).toNat) (fun i : Nat => .int i) (fun k : Nat => .str (strL [ABCAt ((c % 26 + 7 * (k : Int)) % 26)])) fun x hx k => ?_).trans ?_
  · rw [p_mul (mu7 _), p_addI, p_mod z26, p_ABC]
  · unfold blanksL
    rw [List.map_map]; rfl
end

/-! ### rows that grow -/
def roD (t : Tm) : D := .lst [toD t, .int (dep t)]
def grown (row : List Tm) (num : Int) (so : List So) (bs : List Str) (most : Nat) : List Tm :=
  let p := so.getD (num % so.length).toNat (⟨#[]⟩, 0)
  if 0 < p.2 ∧ p.2 ≤ row.length ∧ deps (row.drop (row.length - p.2)) < most ∧ 0 < num / 20 % 4 then row.take (row.length - p.2) ++ [.nd p.1 (row.drop (row.length - p.2))]
  else if bs = [] ∨ num / 20 / 4 % 3 = 0 then row ++ [.nd (so.getD 0 (⟨#[]⟩, 0)).1 []]
  else row ++ [.bl (bs.getD (num / 20 / 12 % bs.length).toNat ⟨#[]⟩)]
theorem foldl_max : ∀ (l : List Int) (a b : Int), l.foldl max (max a b) = max a (l.foldl max b)
  | [], a, b => rfl
  | x :: l, a, b => by
    rw [List.foldl_cons, List.foldl_cons, ← foldl_max l a (max b x)]
    congr 1
    omega
theorem max_deps : ∀ ts : List Tm, (match ts.map (fun t => ((dep t : Nat) : Int)) with | [] => (0 : Int) | m :: r => r.foldl max m) = ((deps ts : Nat) : Int)
  | [] => rfl
  | t :: ts => by
    have ih := max_deps ts
    rw [deps]
    simp only [List.map_cons]
    cases ts with
    | nil => simp [deps]
    | cons u us =>
      simp only [List.map_cons] at ih ⊢
      rw [List.foldl_cons, foldl_max, ih]
      omega
theorem eqOk_strs {bs : List Str} (h : ∀ s ∈ bs, PyData.strOk s = true) : (D.lst (bs.map D.str)).eqOk = true := by
  have a : ∀ bs : List Str, (∀ s ∈ bs, PyData.strOk s = true) → PyData.canLayAll0 (D.toPs (bs.map D.str)) = true ∧ PyData.depthAll (D.toPs (bs.map D.str)) = 0 := by
    intro bs
    induction bs with
    | nil => intro _; exact ⟨rfl, rfl⟩
    | cons b bs ih =>
      intro h
      obtain ⟨i1, i2⟩ := ih fun s hs => h s (.tail _ hs)
      refine ⟨?_, ?_⟩
      · show (PyData.strOk b && PyData.canLayAll0 (D.toPs (bs.map D.str))) = true
        rw [h b (.head _), i1]; rfl
      · show max 0 (PyData.depthAll (D.toPs (bs.map D.str))) = 0
        rw [i2]; rfl
  obtain ⟨a1, a2⟩ := a bs h
  show (PyData.canLayAll0 (D.toPs (bs.map D.str)) && decide (PyData.depthAll (D.toPs (bs.map D.str)) + 1 ≤ 150)) = true
  rw [a1, a2]; rfl
theorem plDs_strs (bs : List Str) : plDs (bs.map D.str) = true := by
  induction bs with
  | nil => rfl
  | cons b bs ih => rw [List.map_cons, plDs, ih]; rfl
section
variable {β : Type}
theorem p_eqNil {bs : List Str} {K : D → P β} (h : ∀ s ∈ bs, PyData.strOk s = true) : oP (op2 .eq (.lst (bs.map D.str)) (.lst [])) K = K (.bl (decide (bs = []))) :=
  p_eq (by rw [plD]; exact plDs_strs bs) rfl (eqOk_strs h) rfl (by cases bs <;> simp)
theorem p_max0 {ts : List Tm} {K : D → P β} : oP (op1 .max0 (.lst (ts.map fun t => .int (dep t)))) K = K (.int (deps ts)) := by
  have : op1 .max0 (.lst (ts.map fun t => .int (dep t))) = some (.sh, .int (deps ts)) := by
    show (ints? (ts.map fun t => .int (dep t))).map (fun ns => ((Md.sh, D.int (match ns with | [] => 0 | m :: r => r.foldl max m)) : Val)) = _
    rw [ints_map]
    show some ((Md.sh, D.int _) : Val) = _
    rw [← max_deps ts]
  rw [this]; rfl
end
section
variable {T : Tab}
theorem c_grown (h : Is5 T "_law_grown" X__law_grown) {n : Nat} (hn : 1 ≤ n) (row : List Tm) (num : Int) (so : List So) (bs : List Str) (most : Nat) (hso : SoOk so) (hbs : ∀ s ∈ bs, PyData.strOk s = true) (hbz : bs.length ≤ 1000) (hr : row.length ≤ 10000) :
    callC T n "_law_grown" [.lst (row.map roD), .int num, .lst (so.map soD), .lst (bs.map D.str), .int most] = .ok (.lst ((grown row num so bs most).map roD), .non) := by
  obtain ⟨m, rfl⟩ : ∃ m, n = m + 1 := ⟨n - 1, by omega⟩
  rw [h]
  unfold X__law_grown
  have sl0 : 0 < so.length := List.length_pos_iff.mpr hso.ne
  have n0 := Int.emod_nonneg num (b := (so.length : Int)) (by omega)
  have n1 := Int.emod_lt_of_pos num (b := (so.length : Int)) (by omega)
  have g1 : L2.atI (so.map soD) (num % (so.length : Int)) = some (soD (so.getD (num % so.length).toNat (⟨#[]⟩, 0))) := atI_map n0 n1
  have g0 : L2.atI (so.map soD) 0 = some (soD (so.getD 0 (⟨#[]⟩, 0))) := atI_map (by omega) (by omega)
  unfold grown
  have hmn : (so.getD (num % so.length).toNat (⟨#[]⟩, 0)).2 ≤ 3 := by
    rw [List.getD_eq_getElem?_getD, List.getElem?_eq_getElem (show (num % so.length).toNat < so.length by omega)]
    exact hso.le _ (List.getElem_mem _)
  generalize hp : so.getD (num % so.length).toNat (⟨#[]⟩, 0) = p at *
  generalize hq : so.getD 0 (⟨#[]⟩, 0) = q at *
  obtain ⟨wd, mn⟩ := p
  obtain ⟨wq, mq⟩ := q
  obtain ⟨j, hj⟩ : ∃ j, j = HT.sIx row.length 0 (some ((row.length : Int) - mn)) := ⟨_, rfl⟩
  have cutj : cut (row.map roD) (some ((row.length : Int) - mn)) none = (row.drop j).map roD := by
    unfold cut
    rw [List.length_map, ← hj, List.map_drop]
    exact List.take_of_length_le (by simp [HT.sIx])
  have hjm : mn ≤ row.length → j = row.length - mn := fun hm => by
    rw [hj]; simp only [HT.sIx]; rw [if_neg (by omega)]; omega
  have cutt : mn ≤ row.length → cut (row.map roD) none (some ((row.length : Int) - mn)) = (row.take (row.length - mn)).map roD := fun hm => by
    rw [cut_take _ _ (by omega), show ((row.length : Int) - mn).toNat = row.length - mn by omega, List.map_take]
  rw [p_lenL, List.length_map, p_mod (by omega), p_idxL g1, soD, p_TLt, p_un2, p_div dv20, p_lenL, List.length_map, p_subI, p_I, p_slL, cutj, p_seqL, p_if (by simp; exact sz_of (by omega))]
  refine (lc0_map (row.drop j) roD (fun t => .int (dep t)) fun t ht k => ?_).trans ?_
  · rw [roD, p_idx1L]
  rw [p_max0, p_gt, p_B, p_j1]
  generalize hc : decide (0 < mn ∧ mn ≤ row.length ∧ deps (row.drop (row.length - mn)) < most ∧ 0 < num / 20 % 4) = c
  have cond : ∀ (K : D → P (D × D)), (bif decide ((0 : Int) < mn) then
      oP (op1 .len (.lst (row.map roD))) fun z22 => oP (op2 .le (.int mn) z22) fun z23 => asB z23 fun b24 => join1 (fun k25 => bif b24 then oP (op2 .lt (.int (deps (row.drop j))) (.int most)) fun z27 => asB z27 fun b28 => join1 (fun k29 => bif b28 then oP (op2 .mod (.int (num / 20)) (.int 4)) fun z31 => oP (op2 .gt z31 (.int 0)) fun z32 => k29 z32 else k29 (.bl false)) fun c30 => k25 c30 else k25 (.bl false)) fun c26 => K c26
      else K (.bl false)) = K (.bl c) := fun K => by
    rw [← hc]
    by_cases h1 : 0 < mn
    · rw [p_ci (decide_eq_true (by omega)), p_lenL, List.length_map, p_le, p_B, p_j1]
      by_cases h2 : mn ≤ row.length
      · rw [p_ci (decide_eq_true (by omega)), p_lt, p_B, p_j1, hjm h2]
        by_cases h3 : deps (row.drop (row.length - mn)) < most
        · rw [p_ci (decide_eq_true (by omega)), p_mod z4, p_gt]
          by_cases h4 : 0 < num / 20 % 4
          · rw [decide_eq_true h4, decide_eq_true ⟨h1, h2, h3, h4⟩]
          · rw [decide_eq_false h4, decide_eq_false (fun z => h4 z.2.2.2)]
        · rw [p_cn (decide_eq_false (by omega)), decide_eq_false (fun z => h3 z.2.2.1)]
      · rw [p_cn (decide_eq_false (by omega)), decide_eq_false (fun z => h2 z.2.1)]
    · rw [p_cn (decide_eq_false (by omega)), decide_eq_false (fun z => h1 z.1)]
  refine (cond _).trans ?_
  rw [p_B]
  cases c with
  | true =>
    have hc' := of_decide_eq_true hc
    rw [p_ct, if_pos hc', p_lenL, List.length_map, p_subI, p_I, p_slL, cutt hc'.2.1, p_seqL, p_if (by simp; exact sz_of (by omega))]
    refine (lc0_map (row.drop j) roD toD fun t ht k => ?_).trans ?_
    · rw [roD, p_idx0L]
    · rw [p_tupL, p_addT (by simp; exact sz_of (by omega)), p_addI, p_addL (by simp; exact sz_of (by omega)), hjm hc'.2.1, tup_cons]
      simp only [List.map_append, List.map_cons, List.map_nil, roD, dep]
      rw [show ((deps (row.drop (row.length - mn)) : Nat) : Int) + 1 = ((1 + deps (row.drop (row.length - mn)) : Nat) : Int) by omega]
  | false =>
    rw [p_cf, if_neg (of_decide_eq_false hc), p_eqNil hbs, p_B, p_j1]
    by_cases hb : bs = []
    · rw [p_ci (decide_eq_true hb)]
      try dsimp only
      rw [p_B, p_ct, if_pos (.inl hb), p_idxL g0, soD, p_idx0T, p_addL (by simp; exact sz_of (by omega))]
      simp [roD, toD, toDs, dep, deps]
    · rw [p_cn (decide_eq_false hb), p_div dv4, p_mod z3, p_eqI]
      try dsimp only
      rw [p_B]
      by_cases hz : num / 20 / 4 % 3 = 0
      · rw [p_ci (decide_eq_true hz), if_pos (.inr hz), p_idxL g0, soD, p_idx0T, p_addL (by simp; exact sz_of (by omega))]
        simp [roD, toD, toDs, dep, deps]
      · have bl0 : 0 < bs.length := List.length_pos_iff.mpr hb
        have b0 := Int.emod_nonneg (num / 20 / 12) (b := (bs.length : Int)) (by omega)
        have b1 := Int.emod_lt_of_pos (num / 20 / 12) (b := (bs.length : Int)) (by omega)
        rw [p_cn (decide_eq_false hz), if_neg (fun z => z.elim hb hz), p_div dv12, p_lenL, List.length_map, p_mod (by omega), p_idxL (atI_map (d := ⟨#[]⟩) b0 b1), p_addL (by simp; exact sz_of (by omega))]
        simp [roD, toD, dep]
end
end Pu
end

section
set_option Elab.async false
set_option linter.all false
set_option maxRecDepth 100000
set_option maxHeartbeats 1000000
namespace Pu
open En PySem Sh

/-! ### purses -/
abbrev Pur := Int × Int
def purD (p : Pur) : D := .lst [.int p.1, .int p.2]
def pstep (s : Int × Int) (k : Nat) : Int × Int :=
  let n := (s.1 * s.1 + 48271 * k * k + k + 3) % 2147483629
  (n, s.2 * 2147483587 + n * n % 2147483587)
def purse (c : Int) : Pur :=
  let f := ((List.range 16).foldl pstep (c % 2147483647, 1)).2
  (if c % 2 = 0 then (if c < 0 then -c else c) / 2 else 0, f)
def take (p : Pur) (m : Int) : Int × Pur := if p.1 = 0 then (p.2 % m, (p.1, p.2 / m)) else (p.1 % m, (p.1 / m, p.2))
def takes (m : Int) : Nat → Pur → List Int × Pur
  | 0, p => ([], p)
  | n + 1, p => ((take p m).1 :: (takes m n (take p m).2).1, (takes m n (take p m).2).2)
theorem takes_len (m : Int) : ∀ (n : Nat) (p : Pur), (takes m n p).1.length = n
  | 0, _ => rfl
  | n + 1, p => by rw [takes, List.length_cons, takes_len m n]
theorem lcF_takes (m : Int) : ∀ (n lo : Nat) (p : Pur), lcF (fun (s : Pur) (_ : Nat) => (D.int (take s m).1, (take s m).2)) (List.range' lo n) p = ((takes m n p).1.map D.int, (takes m n p).2)
  | 0, lo, p => rfl
  | n + 1, lo, p => by
    rw [List.range'_succ, lcF, takes]
    simp only [lcF_takes m n (lo + 1)]
    rfl
def stream (c : Int) (n : Nat) : List Int := (takes 4800 n (purse c)).1
theorem stream_len (c : Int) (n : Nat) : (stream c n).length = n := takes_len _ _ _
section
variable {T : Tab}
theorem c_purse (h : Is1 T "_law_purse" X__law_purse) {n : Nat} (hn : 1 ≤ n) (c : Int) : callC T n "_law_purse" [.int c] = .ok (purD (purse c), .non) := by
  obtain ⟨m, rfl⟩ : ∃ m, n = m + 1 := ⟨n - 1, by omega⟩
  rw [h]
  unfold X__law_purse
  rw [p_mod z2147483647, p_rng (by decide) (by decide), p_if (by rw [rangeD_len]; exact sz_of (by decide)), rangeD0]
  refine (loop2_fold (List.range (Int.toNat 16)) (fun i : Nat => .int i) (fun s => .int s.1) (fun s => .int s.2) pstep (fun _ s => 0 ≤ s.1 ∧ s.1 < 2147483648) (c % 2147483647, 1) (by constructor <;> omega) (fun i s x hs hx k => ?_) (fun i s x hs hx => by simp only [pstep]; constructor <;> omega)).trans ?_
  · have hx := ix_mem hx
    have hx : x < 16 := by simpa using hx
    have q : 0 ≤ (s.1 * s.1 + 48271 * x * x + x + 3) % 2147483629 ∧ (s.1 * s.1 + 48271 * x * x + x + 3) % 2147483629 < 2147483629 := by constructor <;> omega
    rw [p_mul (mul_l (by omega) (by omega)), p_mul (mul_l (by decide) (by decide)), p_mul (mul_r (by omega) (by omega)), p_addI, p_addI, p_addI, p_mod z2147483629, p_mul (mul_r (by decide) (by decide)), p_mul (mul_l (by omega) (by omega)), p_mod z2147483587, p_addI]
    rfl
  · rw [p_mod z2, p_eqI, p_B]
    by_cases h2 : c % 2 = 0
    · rw [p_ci (decide_eq_true h2), p_abs, p_div dv2]
      simp only [purD, purse, if_pos h2]
      rfl
    · rw [p_cn (decide_eq_false h2)]
      simp only [purD, purse, if_neg h2]
      rfl
theorem c_take (h : Is2 T "_law_take" X__law_take) {n : Nat} (hn : 1 ≤ n) (p : Pur) (m : Int) (h0 : 0 < m) (h1 : m < 2 ^ 64) : callC T n "_law_take" [purD p, .int m] = .ok (.int (take p m).1, purD (take p m).2) := by
  obtain ⟨k, rfl⟩ : ∃ m, n = m + 1 := ⟨n - 1, by omega⟩
  rw [h]
  unfold X__law_take
  rw [purD, p_idx0L, p_eqI, p_intB]
  by_cases hz : p.1 = 0
  · simp only [decide_eq_true hz, if_true]
    rw [p_idx1L, p_mod h0, p_idx1L, p_div (dvS h0 h1)]
    simp only [take, if_pos hz]
    rfl
  · simp only [decide_eq_false hz, Bool.false_eq_true, if_false]
    rw [p_idx0L, p_mod h0, p_idx0L, p_div (dvS h0 h1)]
    simp only [take, if_neg hz]
    rfl
/-- numbers drawn in a comprehension -/
theorem lc_takes {C : CCalls} {β : Type} (h : ∀ p : Pur, C "_law_take" [purD p, .int 4800] = .ok (.int (take p 4800).1, purD (take p 4800).2)) (n : Nat) (p : Pur) {K : List D → D → P β} :
    lc1 (fun a (x : D) k => (C "_law_take" [a, (.int 4800)]).bind fun p6 => k (some p6.1) p6.2) ((List.range n).map fun i : Nat => .int i) (purD p) K = K ((takes 4800 n p).1.map D.int) (purD (takes 4800 n p).2) := by
  refine (lc1_map (List.range n) (fun i : Nat => .int i) purD (fun s _ => (D.int (take s 4800).1, (take s 4800).2)) (fun _ _ => True) p trivial (fun i s x _ _ k => ?_) (fun _ _ _ _ _ => trivial)).trans ?_
  · rw [bk (h s)]
  · rw [List.range_eq_range', lcF_takes]
structure HS (T : Tab) : Prop where
  pu : Is1 T "_law_purse" X__law_purse
  ta : Is2 T "_law_take" X__law_take
  st : Is2 T "_law_stream" X__law_stream
theorem c_stream (h : HS T) {n : Nat} (hn : 2 ≤ n) (c : Int) (m : Nat) (hm : m ≤ 1000) : callC T n "_law_stream" [.int c, .int m] = .ok (.lst ((stream c m).map D.int), .non) := by
  obtain ⟨k, rfl⟩ : ∃ m, n = m + 1 := ⟨n - 1, by omega⟩
  rw [h.st]
  unfold X__law_stream
  rw [bk (c_purse h.pu (n := k) (by omega) c)]
  try dsimp only
  rw [purD, p_ldL, p_rng (by omega) (by omega), p_if (by rw [rangeD_len]; exact sz_of (by omega)), rangeD0, ← purD]
  refine (lc_takes (fun p => c_take h.ta (by omega) p 4800 (by decide) (by decide)) _ _).trans ?_
  rw [show ((m : Nat) : Int).toNat = m by omega]
  rfl

/-! ### counts -/
theorem c_count (h : Is1 T "_law_count" X__law_count) : ∀ (n : Nat) (t : Tm), dep t ≤ n → parts t ≤ 90000 → callC T n "_law_count" [toD t] = .ok (.int (parts t), .non) := by
  intro n
  induction n with
  | zero => intro t hd; have := dep_pos t; omega
  | succ m ih =>
    intro t hd ht
    rw [h]
    unfold X__law_count
    have hk := kids_len t
    cases t with
    | bl s => simp only [↓p_addI, ↓p_subI, ↓p_mul, ↓p_div, ↓p_mod, ↓p_pow, ↓p_lt, ↓p_le, ↓p_gt, ↓p_geI, ↓p_max, ↓p_min, ↓p_neg, ↓p_abs, ↓p_intI, ↓p_intB, ↓p_lenL, ↓p_lenT, ↓p_lenS, ↓p_listL, ↓p_listT, ↓p_tupL, ↓p_tupT, ↓p_sum, ↓p_all, ↓p_join, ↓p_isS_S, ↓p_isS_T, ↓p_isD_D, ↓p_isD_N, ↓p_isN_N, ↓p_isN_D, ↓p_isN_S, ↓p_isN_T, ↓p_isN_L, ↓p_nN_N, ↓p_nN_D, ↓p_nN_S, ↓p_nN_T, ↓p_nN_L, ↓p_dict, ↓p_lenD, ↓p_addS, ↓p_addL, ↓p_addT, ↓p_idx0L, ↓p_idx0T, ↓p_idx1L, ↓p_idx1T, ↓p_idx2T, ↓p_idx2L, ↓p_idxL, ↓p_idxT, ↓p_idxS, ↓p_slL, ↓p_slT, ↓p_slS, ↓p_B, ↓p_I, ↓p_S, ↓p_L, ↓p_T, ↓p_TLt, ↓p_TLl, ↓p_D, ↓p_ldL, ↓p_ldD, ↓p_if, ↓p_seqL, ↓p_seqT, ↓p_rng, ↓p_enum, ↓p_rev, ↓p_chars, ↓p_items, ↓p_keys, ↓p_zipL, ↓p_zipT, ↓p_opt, ↓p_un1, ↓p_un2, ↓p_un3, ↓p_ct, ↓p_cf, ↓p_eqI, ↓p_neI, P.bind_ok, dv2, z2, dv3, z3, dv4, z4, dv5, z5, dv6, z6, dv7, z7, dv8, z8, dv9, z9, dv10, z10, dv11, z11, dv12, z12, dv13, z13, dv14, z14, dv15, z15, dv16, z16, dv20, z20, dv26, z26, dv30, z30, dv40, z40, dv50, z50, dv60, z60, dv100, z100, dv1000, z1000, dv4800, z4800, dv2147483647, z2147483647, dv2147483629, z2147483629, dv2147483587, z2147483587, toD]; rfl
    | nd s ps =>
      simp only [kids] at hk
      rw [toD, p_isS_T, p_B, p_cf, p_slT, cut_tail, p_seqT, toDs_map, p_if (by rw [List.length_map]; exact sz_of (by omega))]
      refine (lc0_map ps toD (fun u => .int (parts u)) fun u hu k => ?_).trans ?_
      · have hu' : u ∈ kids (.nd s ps) := hu
        rw [bk (ih u (by have := dep_kid hu'; omega) (by have := parts_kid hu'; omega))]
      · rw [p_sum (ints_map _ _), p_addI, parts, partss_sum, sum_cast]
        simp
end

/-! ### terms drawn -/
mutual
/-- made of these signs and blanks -/
def fitT (so : List So) (bs : List Str) : Tm → Bool
  | .bl s => bs.contains s
  | .nd s ps => so.contains (s, ps.length) && fitTs so bs ps
def fitTs (so : List So) (bs : List Str) : List Tm → Bool
  | [] => true
  | t :: ts => fitT so bs t && fitTs so bs ts
end
theorem fitTs_mem {so : List So} {bs : List Str} : ∀ {ts : List Tm}, fitTs so bs ts = true ↔ ∀ t ∈ ts, fitT so bs t = true
  | [] => by simp [fitTs]
  | t :: ts => by rw [fitTs, Bool.and_eq_true, fitTs_mem (ts := ts)]; simp
structure BsOk (bs : List Str) : Prop where
  len : bs.length ≤ 1000
  ok : ∀ s ∈ bs, PyData.strOk s = true
mutual
theorem fit_ok {so : List So} {bs : List Str} (h1 : SoOk so) (h2 : BsOk bs) : ∀ t, fitT so bs t = true → okT t = true
  | .bl s, h => by rw [fitT] at h; rw [okT]; exact h2.ok s (List.contains_iff_mem.mp h)
  | .nd s ps, h => by
    rw [fitT, Bool.and_eq_true] at h
    rw [okT, h1.ok _ (List.contains_iff_mem.mp h.1), fits_ok h1 h2 ps h.2]; rfl
theorem fits_ok {so : List So} {bs : List Str} (h1 : SoOk so) (h2 : BsOk bs) : ∀ ts, fitTs so bs ts = true → okTs ts = true
  | [], _ => rfl
  | t :: ts, h => by
    rw [fitTs, Bool.and_eq_true] at h
    rw [okTs, fit_ok h1 h2 t h.1, fits_ok h1 h2 ts h.2]; rfl
end
theorem grown_parts (row : List Tm) (num : Int) (so : List So) (bs : List Str) (most : Nat) : partss (grown row num so bs most) = partss row + 1 := by
  unfold grown
  simp only
  generalize (so.getD (num % so.length).toNat (⟨#[]⟩, 0)) = p
  split
  · have := congrArg partss (List.take_append_drop (row.length - p.2) row)
    rw [partss_app] at this ⊢
    simp only [partss, parts]
    omega
  · split <;> (rw [partss_app]; simp [partss, parts])
theorem grown_deps (row : List Tm) (num : Int) (so : List So) (bs : List Str) (most : Nat) (h : deps row ≤ most) (hm : 1 ≤ most) : deps (grown row num so bs most) ≤ most := by
  unfold grown
  simp only
  generalize (so.getD (num % so.length).toNat (⟨#[]⟩, 0)) = p
  split
  · rename_i hc
    have := congrArg deps (List.take_append_drop (row.length - p.2) row)
    rw [deps_app] at this ⊢
    simp only [deps, dep]
    omega
  · split <;> (rw [deps_app]; simp [deps, dep]; omega)
theorem grown_fit {so : List So} {bs : List Str} (hs : SoOk so) (row : List Tm) (num : Int) (most : Nat) (h : ∀ t ∈ row, fitT so bs t = true) : ∀ t ∈ grown row num so bs most, fitT so bs t = true := by
  have sl0 : 0 < so.length := List.length_pos_iff.mpr hs.ne
  have n0 := Int.emod_nonneg num (b := (so.length : Int)) (by omega)
  have n1 := Int.emod_lt_of_pos num (b := (so.length : Int)) (by omega)
  have hpm : so.getD (num % so.length).toNat (⟨#[]⟩, 0) ∈ so := by
    rw [List.getD_eq_getElem?_getD, List.getElem?_eq_getElem (show (num % so.length).toNat < so.length by omega)]
    exact List.getElem_mem _
  have hqm : so.getD 0 (⟨#[]⟩, 0) ∈ so := by
    rw [List.getD_eq_getElem?_getD, List.getElem?_eq_getElem sl0]
    exact List.getElem_mem _
  have hz := hs.z
  unfold grown
  simp only
  generalize (so.getD (num % so.length).toNat (⟨#[]⟩, 0)) = p at *
  generalize (so.getD 0 (⟨#[]⟩, 0)) = q at *
  intro t ht
  split at ht
  · rename_i hc
    rcases List.mem_append.mp ht with ht | ht
    · exact h t (List.mem_of_mem_take ht)
    · rw [List.mem_singleton.mp ht, fitT]
      have : (row.drop (row.length - p.2)).length = p.2 := by rw [List.length_drop]; omega
      rw [this, Bool.and_eq_true]
      exact ⟨List.contains_iff_mem.mpr hpm, fitTs_mem.mpr fun u hu => h u (List.mem_of_mem_drop hu)⟩
  · split at ht
    · rcases List.mem_append.mp ht with ht | ht
      · exact h t ht
      · rw [List.mem_singleton.mp ht, fitT, List.length_nil, ← hz]
        rw [Bool.and_eq_true]
        exact ⟨List.contains_iff_mem.mpr hqm, rfl⟩
    · rename_i hb
      rcases List.mem_append.mp ht with ht | ht
      · exact h t ht
      · rw [List.mem_singleton.mp ht, fitT]
        have bl0 : 0 < bs.length := List.length_pos_iff.mpr fun z => hb (.inl z)
        have b0 := Int.emod_nonneg (num / 20 / 12) (b := (bs.length : Int)) (by omega)
        have b1 := Int.emod_lt_of_pos (num / 20 / 12) (b := (bs.length : Int)) (by omega)
        refine List.contains_iff_mem.mpr ?_
        rw [List.getD_eq_getElem?_getD, List.getElem?_eq_getElem (show (num / 20 / 12 % bs.length).toNat < bs.length by omega)]
        exact List.getElem_mem _
theorem grown_ne (row : List Tm) (num : Int) (so : List So) (bs : List Str) (most : Nat) : grown row num so bs most ≠ [] := by
  unfold grown
  simp only
  split
  · simp
  · split <;> simp
def rowOf (nums : List Int) (so : List So) (bs : List Str) (most : Nat) : List Tm := nums.foldl (fun row n => grown row n so bs most) []
def pick (row : List Tm) : Tm := row.tail.foldl (fun f t => if parts f ≤ parts t then t else f) (row.headD default)
def term (nums : List Int) (so : List So) (bs : List Str) (most : Nat) : Tm := pick (rowOf nums so bs most)
structure RowOk (so : List So) (bs : List Str) (most n : Nat) (row : List Tm) : Prop where
  p : partss row = n
  d : deps row ≤ most
  f : ∀ t ∈ row, fitT so bs t = true
theorem row_ok {nums : List Int} {so : List So} {bs : List Str} {most : Nat} (hs : SoOk so) (hm : 1 ≤ most) : RowOk so bs most nums.length (rowOf nums so bs most) := by
  have := foldl_inv (fun i row => RowOk so bs most i row) (fun row n => grown row n so bs most) nums 0 [] ⟨rfl, by simp [deps], fun _ h => nomatch h⟩ (fun j row x hr hx => ⟨by rw [grown_parts, hr.p], grown_deps _ _ _ _ _ hr.d hm, grown_fit hs _ _ _ hr.f⟩)
  rw [Nat.zero_add] at this
  exact this
theorem row_ne {nums : List Int} {so : List So} {bs : List Str} {most : Nat} (h : nums ≠ []) : rowOf nums so bs most ≠ [] := by
  obtain ⟨l, a, rfl⟩ : ∃ l a, nums = l ++ [a] := ⟨nums.dropLast, nums.getLast h, (List.dropLast_concat_getLast h).symm⟩
  unfold rowOf
  rw [List.foldl_append]
  exact grown_ne _ _ _ _ _
theorem pick_mem {row : List Tm} (h : row ≠ []) : pick row ∈ row := by
  cases row with
  | nil => exact absurd rfl h
  | cons t ts =>
    have : ∀ (ts : List Tm) (f : Tm), ts.foldl (fun f t => if parts f ≤ parts t then t else f) f ∈ f :: ts := by
      intro ts
      induction ts with
      | nil => intro f; simp
      | cons u us ih =>
        intro f
        rw [List.foldl_cons]
        have := ih (if parts f ≤ parts u then u else f)
        rcases List.mem_cons.mp this with e | e
        · rw [e]; split <;> simp
        · exact .tail _ (.tail _ e)
    exact this ts t
structure TmOk (so : List So) (bs : List Str) (most n : Nat) (t : Tm) : Prop where
  p : parts t ≤ n
  d : dep t ≤ most
  f : fitT so bs t = true
theorem term_ok {nums : List Int} {so : List So} {bs : List Str} {most : Nat} (hs : SoOk so) (hm : 1 ≤ most) (hn : nums ≠ []) : TmOk so bs most nums.length (term nums so bs most) := by
  have r := row_ok (nums := nums) (bs := bs) hs hm
  have m := pick_mem (row_ne (nums := nums) (so := so) (bs := bs) (most := most) hn)
  exact ⟨by have := parts_mem m; rw [r.p] at this; exact this, by have := dep_mem m; have := r.d; unfold term; omega, r.f _ m⟩
section
variable {T : Tab}
structure HT' (T : Tab) : Prop where
  gr : Is5 T "_law_grown" X__law_grown
  co : Is1 T "_law_count" X__law_count
  te : Is4 T "_law_term" X__law_term
theorem c_term (h : HT' T) {n : Nat} (nums : List Int) (so : List So) (bs : List Str) (most : Nat) (hn : most + 2 ≤ n) (hs : SoOk so) (hb : BsOk bs) (hm : 1 ≤ most) (hne : nums ≠ []) (hl : nums.length ≤ 1000) :
    callC T n "_law_term" [.lst (nums.map D.int), .lst (so.map soD), .lst (bs.map D.str), .int most] = .ok (toD (term nums so bs most), .non) := by
  obtain ⟨k, rfl⟩ : ∃ m, n = m + 1 := ⟨n - 1, by omega⟩
  rw [h.te]
  unfold X__law_term
  have r := row_ok (nums := nums) (bs := bs) hs hm
  have hrl : (rowOf nums so bs most).length ≤ nums.length := by have := len_partss (rowOf nums so bs most); rw [r.p] at this; exact this
  rw [p_seqL, p_if (by rw [List.length_map]; exact sz_of (by omega))]
  refine (loop1_fold nums D.int (fun row => .lst (row.map roD)) (fun row n => grown row n so bs most) (fun i row => RowOk so bs most i row) [] ⟨rfl, by simp [deps], fun _ h => nomatch h⟩ (fun i row x hr hx q => ?_) (fun j row x hr hx => ⟨by rw [grown_parts, hr.p], grown_deps _ _ _ _ _ hr.d hm, grown_fit hs _ _ _ hr.f⟩)).trans ?_
  · have hi := ix_lt hx
    rw [bk (c_grown h.gr (by omega) row x so bs most hs hb.ok hb.len (by have := len_partss row; have := hr.p; omega))]
  · rw [show List.foldl (fun row n => grown row n so bs most) [] nums = rowOf nums so bs most from rfl]
    unfold term
    cases hrow : rowOf nums so bs most with
    | nil => exact absurd hrow (row_ne hne)
    | cons t ts =>
      rw [hrow] at r hrl
      rw [List.map_cons, p_idx0L, roD, p_idx0L, p_slL, cut_tail, p_seqL, p_if (by rw [List.length_map]; exact sz_of (by simp at hrl; omega))]
      have hd : ∀ u ∈ t :: ts, dep u ≤ most ∧ parts u ≤ 1000 := fun u hu => ⟨by have := dep_mem hu; have := r.d; omega, by have := parts_mem hu; have := r.p; omega⟩
      refine (loop1_fold ts roD toD (fun f t => if parts f ≤ parts t then t else f) (fun _ f => f ∈ t :: ts) t (.head _) (fun i f x hf hx q => ?_) (fun i f x hf hx => by split <;> first | exact .tail _ (ix_mem hx) | exact hf)).trans ?_
      · have hx := hd x (.tail _ (ix_mem hx))
        have hf := hd f hf
        rw [roD, p_idx0L, bk (c_count h.co k x (by omega) (by omega)), bk (c_count h.co k f (by omega) (by omega))]
        try dsimp only
        rw [p_geI, p_B, p_j1]
        by_cases hc : parts f ≤ parts x
        · rw [p_ci (decide_eq_true (by omega)), p_idx0L, if_pos hc]
        · rw [p_cn (decide_eq_false (by omega)), if_neg hc]
      · rfl
end
end Pu
end

section
set_option Elab.async false
set_option linter.all false
set_option maxRecDepth 100000
set_option maxHeartbeats 1000000
namespace Pu
open En PySem Sh

/-! ### fillings -/
def fput (φ : Fi) (s : Str) (t : Tm) : Fi := if φ.any (fun p => p.1 = s) then φ.map (fun p => if p.1 = s then (p.1, t) else p) else φ ++ [(s, t)]
def fkeys (φ : Fi) : List Str := φ.map (·.1)
theorem dput_fi (φ : Fi) (s : Str) (t : Tm) : dput (fiD φ) (.str s) (toD t) = fiD (fput φ s t) := by
  have h1 : (fiD φ).any (fun kv => kv.1.eq (.str s)) = φ.any (fun p => p.1 = s) := by
    unfold fiD
    rw [List.any_map]
    congr 1
  unfold dput fput
  rw [h1]
  cases φ.any (fun p => p.1 = s) with
  | true =>
    simp only [if_true, fiD, List.map_map]
    refine List.map_congr_left fun p _ => ?_
    simp only [Function.comp_def, eqS]
    by_cases e : p.1 = s
    · simp [e]
    · simp [e]
  | false => simp [fiD]
theorem fput_keys (φ : Fi) (s : Str) (t : Tm) : fkeys (fput φ s t) = if s ∈ fkeys φ then fkeys φ else fkeys φ ++ [s] := by
  unfold fput
  have h : (φ.any (fun p => p.1 = s) = true) ↔ s ∈ fkeys φ := by
    simp [fkeys]
  cases hc : φ.any (fun p => p.1 = s) with
  | true =>
    rw [if_pos (h.mp hc)]
    simp only [if_true, fkeys, List.map_map]
    refine List.map_congr_left fun p _ => ?_
    simp only [Function.comp_def]
    split <;> rfl
  | false =>
    have hn : s ∉ fkeys φ := fun z => by rw [h.mpr z] at hc; cases hc
    rw [if_neg hn]
    simp [fkeys]
theorem fput_nodup {φ : Fi} {s : Str} {t : Tm} (h : (fkeys φ).Nodup) : (fkeys (fput φ s t)).Nodup := by
  rw [fput_keys]
  split
  · exact h
  · rename_i hn
    rw [List.nodup_append]
    exact ⟨h, by simp, fun a ha b hb e => by rw [List.mem_singleton.mp hb] at e; exact hn (e ▸ ha)⟩
theorem fput_mem {φ : Fi} {s : Str} {t : Tm} {p : Str × Tm} (h : p ∈ fput φ s t) : p ∈ φ ∨ p = (s, t) := by
  unfold fput at h
  split at h
  · obtain ⟨q, hq, e⟩ := List.mem_map.mp h
    split at e
    · rename_i e2; rw [← e, e2]; exact .inr rfl
    · rw [← e]; exact .inl hq
  · rcases List.mem_append.mp h with h | h
    · exact .inl h
    · exact .inr (List.mem_singleton.mp h)
theorem fput_len (φ : Fi) (s : Str) (t : Tm) : (fput φ s t).length ≤ φ.length + 1 := by
  unfold fput; split <;> simp
theorem look_mem : ∀ {φ : Fi} {s : Str} {t : Tm}, look φ s = some t → (s, t) ∈ φ
  | (k, v) :: φ, s, t, h => by
    rw [look] at h
    split at h
    · rename_i e; cases h; rw [e]; exact .head _
    · exact .tail _ (look_mem h)
theorem look_of : ∀ {φ : Fi} {s : Str} {t : Tm}, (fkeys φ).Nodup → (s, t) ∈ φ → look φ s = some t
  | (k, v) :: φ, s, t, hn, h => by
    have hn : (k :: fkeys φ).Nodup := hn
    rw [List.nodup_cons] at hn
    rw [look]
    rcases List.mem_cons.mp h with e | e
    · cases e; rw [if_pos rfl]
    · have : k ≠ s := fun z => hn.1 (List.mem_map.mpr ⟨(s, t), e, z.symm⟩)
      rw [if_neg this]; exact look_of hn.2 e
theorem look_none : ∀ {φ : Fi} {s : Str}, look φ s = none ↔ s ∉ fkeys φ
  | [], s => by simp [look, fkeys]
  | (k, v) :: φ, s => by
    rw [look]
    by_cases e : k = s
    · simp [e, fkeys]
    · rw [if_neg e, look_none (φ := φ)]
      simp [fkeys, Ne.symm e]
/-- all terms put in may be laid down, at most so deep -/
structure FiOk (d n : Nat) (φ : Fi) : Prop where
  nd : (fkeys φ).Nodup
  len : φ.length ≤ n
  k : ∀ p ∈ φ, PyData.strOk p.1 = true
  v : ∀ p ∈ φ, okT p.2 = true
  d : ∀ p ∈ φ, dep p.2 ≤ d
theorem FiOk.put {d n : Nat} {φ : Fi} (h : FiOk d n φ) {s : Str} {t : Tm} (hs : PyData.strOk s = true) (ht : okT t = true) (hd : dep t ≤ d) : FiOk d (n + 1) (fput φ s t) where
  nd := fput_nodup h.nd
  len := by have := fput_len φ s t; have := h.len; omega
  k := fun p hp => (fput_mem hp).elim (fun e => h.k p e) (fun e => by rw [e]; exact hs)
  v := fun p hp => (fput_mem hp).elim (fun e => h.v p e) (fun e => by rw [e]; exact ht)
  d := fun p hp => (fput_mem hp).elim (fun e => h.d p e) (fun e => by rw [e]; exact hd)
theorem FiOk.nil {d n : Nat} : FiOk d n [] := ⟨List.nodup_nil, by simp, (fun _ h => nomatch h), (fun _ h => nomatch h), (fun _ h => nomatch h)⟩
theorem FiOk.one {d n : Nat} {s : Str} {t : Tm} (hn : 1 ≤ n) (hs : PyData.strOk s = true) (ht : okT t = true) (hd : dep t ≤ d) : FiOk d n [(s, t)] :=
  ⟨by simp [fkeys], hn, fun p hp => by rw [List.mem_singleton.mp hp]; exact hs, fun p hp => by rw [List.mem_singleton.mp hp]; exact ht, fun p hp => by rw [List.mem_singleton.mp hp]; exact hd⟩
theorem FiOk.mono {d n d' n' : Nat} {φ : Fi} (h : FiOk d n φ) (hd : d ≤ d') (hn : n ≤ n') : FiOk d' n' φ := ⟨h.nd, Nat.le_trans h.len hn, h.k, h.v, fun p hp => Nat.le_trans (h.d p hp) hd⟩
mutual
theorem fill_ok {φ : Fi} (h : ∀ p ∈ φ, okT p.2 = true) : ∀ t, okT t = true → okT (fillT φ t) = true
  | .bl s, ht => by
    rw [fillT]
    cases hl : look φ s with
    | none => exact ht
    | some u => exact h _ (look_mem hl)
  | .nd s ps, ht => by
    rw [okT, Bool.and_eq_true] at ht
    rw [fillT, okT, ht.1, fills_ok h ps ht.2]; rfl
theorem fills_ok {φ : Fi} (h : ∀ p ∈ φ, okT p.2 = true) : ∀ ts, okTs ts = true → okTs (fillTs φ ts) = true
  | [], _ => rfl
  | t :: ts, ht => by
    rw [okTs, Bool.and_eq_true] at ht
    rw [fillTs, okTs, fill_ok h t ht.1, fills_ok h ts ht.2]; rfl
end
mutual
theorem fill_dep {φ : Fi} {d : Nat} (h : ∀ p ∈ φ, dep p.2 ≤ d) : ∀ t, dep (fillT φ t) ≤ dep t + d
  | .bl s => by
    rw [fillT]
    cases hl : look φ s with
    | none => simp [dep]
    | some u => have : dep u ≤ d := h _ (look_mem hl); simp [dep]; omega
  | .nd s ps => by rw [fillT, dep, dep]; have := fills_dep h ps; omega
theorem fills_dep {φ : Fi} {d : Nat} (h : ∀ p ∈ φ, dep p.2 ≤ d) : ∀ ts, deps (fillTs φ ts) ≤ deps ts + d
  | [] => by simp [fillTs, deps]
  | t :: ts => by rw [fillTs, deps, deps]; have := fill_dep h t; have := fills_dep h ts; omega
end
mutual
theorem fill_nil : ∀ t, fillT [] t = t
  | .bl s => rfl
  | .nd s ps => by rw [fillT, fills_nil ps]
theorem fills_nil : ∀ ts, fillTs [] ts = ts
  | [] => rfl
  | t :: ts => by rw [fillTs, fill_nil t, fills_nil ts]
end
section
variable {β : Type}
theorem p_setFi {φ : Fi} {s : Str} {t : Tm} {K : D → P β} (h : φ.length ≤ 10000) : setP (.dic (fiD φ)) (.str s) (toD t) K = K (.dic (fiD (fput φ s t))) := by
  show ifP (keyOk (.str s) && keysOk (fiD φ) (.str s) && valOk (.str s) (toD t) && szOk ((fiD φ).length + 1)) (K (.dic (dput (fiD φ) (.str s) (toD t)))) = _
  rw [dput_fi, p_if]
  have h1 : keysOk (fiD φ) (.str s) = true := strK_fi φ
  have h2 : szOk ((fiD φ).length + 1) = true := by unfold fiD; rw [List.length_map]; exact sz_of (by omega)
  rw [h1, h2]; rfl
theorem dics_ok {d n : Nat} {φ : Fi} (h : FiOk d n φ) (hd : d ≤ 75) : (strK (fiD φ) && (fiD φ).all fun kv => kv.2.eqOk) = true := by
  rw [strK_fi, Bool.true_and]
  refine List.all_eq_true.mpr fun kv hkv => ?_
  obtain ⟨p, hp, rfl⟩ := List.mem_map.mp hkv
  exact eqOk_tm (h.v p hp) (by have := h.d p hp; omega)
theorem dicsEq_iff {φ ψ : Fi} (h1 : (fkeys φ).Nodup) : dicsEq (fiD φ) (fiD ψ) = decide (φ.length = ψ.length ∧ ∀ p ∈ φ, look ψ p.1 = some p.2) := by
  have e0 : dicsEq (fiD φ) (fiD ψ) = (((fiD φ).length == (fiD ψ).length) && (fiD φ).all fun kv => match dget (fiD ψ) kv.1 with | some v => kv.2.eq v | none => false) := rfl
  have e1 : ((fiD φ).length == (fiD ψ).length) = decide (φ.length = ψ.length) := by
    unfold fiD; rw [List.length_map, List.length_map]; rfl
  have e2 : ((fiD φ).all fun kv => match dget (fiD ψ) kv.1 with | some v => kv.2.eq v | none => false) = decide (∀ p ∈ φ, look ψ p.1 = some p.2) := by
    rw [Bool.eq_iff_iff, List.all_eq_true, decide_eq_true_iff]
    constructor
    · intro h p hp
      have := h _ (List.mem_map.mpr ⟨p, hp, rfl⟩)
      simp only [dget_fi] at this
      cases hl : look ψ p.1 with
      | none => rw [hl] at this; cases this
      | some u =>
        rw [hl] at this
        rw [toD_inj _ _ ((eq_iff (plD_tm _) (plD_tm _)).mp this)]
    · intro h kv hkv
      obtain ⟨p, hp, rfl⟩ := List.mem_map.mp hkv
      simp only [dget_fi, h p hp, Option.map_some]
      exact (eq_iff (plD_tm _) (plD_tm _)).mpr rfl
  rw [e0, e1, e2, Bool.decide_and]
theorem p_eqFi {d n : Nat} {φ ψ : Fi} {K : D → P β} (h1 : FiOk d n φ) (h2 : FiOk d n ψ) (hd : d ≤ 75) : oP (op2 .eq (.dic (fiD φ)) (.dic (fiD ψ))) K = K (.bl (decide (φ.length = ψ.length ∧ ∀ p ∈ φ, look ψ p.1 = some p.2))) := by
  have : op2 .eq (.dic (fiD φ)) (.dic (fiD ψ)) = some (.sh, .bl (decide (φ.length = ψ.length ∧ ∀ p ∈ φ, look ψ p.1 = some p.2))) := by
    show (if dicsOk (fiD φ) (fiD ψ) then some ((Md.sh, D.bl (id (dicsEq (fiD φ) (fiD ψ)))) : Val) else none) = _
    unfold dicsOk
    rw [dics_ok h1 hd, dics_ok h2 hd, dicsEq_iff h1.nd]; rfl
  rw [this]; rfl
theorem p_neFi {d n : Nat} {φ ψ : Fi} {K : D → P β} (h1 : FiOk d n φ) (h2 : FiOk d n ψ) (hd : d ≤ 75) : oP (op2 .ne (.dic (fiD φ)) (.dic (fiD ψ))) K = K (.bl (!decide (φ.length = ψ.length ∧ ∀ p ∈ φ, look ψ p.1 = some p.2))) := by
  have : op2 .ne (.dic (fiD φ)) (.dic (fiD ψ)) = some (.sh, .bl (!decide (φ.length = ψ.length ∧ ∀ p ∈ φ, look ψ p.1 = some p.2))) := by
    show (if dicsOk (fiD φ) (fiD ψ) then some ((Md.sh, D.bl (not (dicsEq (fiD φ) (fiD ψ)))) : Val) else none) = _
    unfold dicsOk
    rw [dics_ok h1 hd, dics_ok h2 hd, dicsEq_iff h1.nd]; rfl
  rw [this]; rfl
theorem p_neFi_self {d n : Nat} {φ : Fi} {K : D → P β} (h1 : FiOk d n φ) (hd : d ≤ 75) : oP (op2 .ne (.dic (fiD φ)) (.dic (fiD φ))) K = K (.bl false) := by
  rw [p_neFi h1 h1 hd]
  have : decide (φ.length = φ.length ∧ ∀ p ∈ φ, look φ p.1 = some p.2) = true := decide_eq_true ⟨rfl, fun p hp => look_of h1.nd hp⟩
  rw [this]; rfl
theorem any_strs (bs : List Str) (x : Str) : ((bs.map D.str).any fun z => z.eq (.str x)) = decide (x ∈ bs) := by
  rw [Bool.eq_iff_iff, List.any_eq_true, decide_eq_true_iff]
  constructor
  · rintro ⟨z, hz, he⟩
    obtain ⟨b, hb, rfl⟩ := List.mem_map.mp hz
    rw [eqS] at he
    rw [← of_decide_eq_true he]; exact hb
  · intro h
    exact ⟨.str x, List.mem_map.mpr ⟨x, h, rfl⟩, by rw [eqS]; exact decide_eq_true rfl⟩
theorem eqOk_str {x : Str} (h : PyData.strOk x = true) : (D.str x).eqOk = true := by
  unfold D.eqOk D.toP
  rw [PyData.canLay0, h]; rfl
theorem p_innS {bs : List Str} {x : Str} {K : D → P β} (h : ∀ s ∈ bs, PyData.strOk s = true) (hx : PyData.strOk x = true) : oP (op2 .inn (.str x) (.lst (bs.map D.str))) K = K (.bl (decide (x ∈ bs))) := by
  have : op2 .inn (.str x) (.lst (bs.map D.str)) = some (.sh, .bl (decide (x ∈ bs))) := by
    show (if (D.str x).eqOk && (D.lst (bs.map D.str)).eqOk then some ((Md.sh, D.bl (id ((bs.map D.str).any fun z => z.eq (.str x)))) : Val) else none) = _
    rw [eqOk_str hx, eqOk_strs h, any_strs]; rfl
  rw [this]; rfl
theorem p_ninS {bs : List Str} {x : Str} {K : D → P β} (h : ∀ s ∈ bs, PyData.strOk s = true) (hx : PyData.strOk x = true) : oP (op2 .nin (.str x) (.lst (bs.map D.str))) K = K (.bl (!decide (x ∈ bs))) := by
  have : op2 .nin (.str x) (.lst (bs.map D.str)) = some (.sh, .bl (!decide (x ∈ bs))) := by
    show (if (D.str x).eqOk && (D.lst (bs.map D.str)).eqOk then some ((Md.sh, D.bl (not ((bs.map D.str).any fun z => z.eq (.str x)))) : Val) else none) = _
    rw [eqOk_str hx, eqOk_strs h, any_strs]; rfl
  rw [this]; rfl
end
theorem nodup_le {α : Type} [DecidableEq α] : ∀ (xs bs : List α), xs.Nodup → (∀ x ∈ xs, x ∈ bs) → xs.length ≤ bs.length
  | [], bs, _, _ => by simp
  | x :: xs, bs, hn, h => by
    rw [List.nodup_cons] at hn
    have hx := h x (.head _)
    have := nodup_le xs (bs.erase x) hn.2 fun y hy => (List.mem_erase_of_ne (fun (e : y = x) => hn.1 (e ▸ hy))).mpr (h y (.tail _ hy))
    rw [List.length_erase_of_mem hx] at this
    have := List.length_pos_of_mem hx
    rw [List.length_cons]; omega
/-- a letter that isn't among so few -/
theorem spare_ne {bs : List Str} (hb : bs.length ≤ 4) {xs : List Str} (hx : xs.Nodup) (hl : 5 ≤ xs.length) : xs.filter (fun x => !decide (x ∈ bs)) ≠ [] := by
  intro h
  have : ∀ x ∈ xs, x ∈ bs := fun x hx' => by
    have := List.filter_eq_nil_iff.mp h x hx'
    simpa using this
  have := nodup_le xs bs hx this
  omega
def spares : List Str := [strL [81], strL [74], strL [88], strL [90], strL [75]]
theorem chars_spare : chars (Str.ofString "QJXZK") = spares.map D.str := by
  have : (Str.ofString "QJXZK").cps.toList = [81, 74, 88, 90, 75] := by decide +kernel
  unfold chars
  rw [this]; rfl
theorem spares_nd : spares.Nodup := by decide +kernel
theorem spares_ok : ∀ s ∈ spares, PyData.strOk s = true := by decide +kernel
structure HG (T : Tab) : Prop where
  cell : Is2 T "_law_cell" X__law_cell
  words : Is1 T "_law_words" X__law_words
  sorts : Is1 T "_law_sorts" X__law_sorts
  blanks : Is1 T "_law_blanks" X__law_blanks
/-- the numbers of a row -/
def numsOf (xs : List Int) : List Int := xs.map fun c => c * 1000000007 % 2147483647
theorem lc_nums {β : Type} (xs : List Int) {K : List D → P β} :
    lc0 (fun x8 k9 => oP (op2 .mul x8 (.int 1000000007)) fun z10 => oP (op2 .mod z10 (.int 2147483647)) fun z11 => k9 (some z11)) (xs.map D.int) K = K ((numsOf xs).map D.int) := by
  refine (lc0_map xs D.int (fun c => .int (c * 1000000007 % 2147483647)) fun x hx k => ?_).trans ?_
  · rw [p_mul (mu1 x), p_mod z2147483647]
  · unfold numsOf; rw [List.map_map]; rfl
theorem cutI_len {α : Type} (ns : List α) (a b : Int) (h0 : 0 ≤ a) (h : a ≤ b) : (cut ns (some a) (some b)).length ≤ (b - a).toNat := by
  unfold cut HT.sIx
  rw [List.length_take, List.length_drop]
  simp only []
  rw [if_neg (by omega), if_neg (by omega)]
  omega
end Pu
end

section
set_option Elab.async false
set_option linter.all false
set_option maxRecDepth 100000
set_option maxHeartbeats 1000000
namespace Pu
open En PySem Sh

/-! ### places -/
abbrev Pl := List Nat
def loD (p : Pl) : D := .tup (p.map fun n : Nat => .int n)
def sub : Tm → Pl → Option Tm
  | t, [] => some t
  | .bl _, _ :: _ => none
  | .nd _ ps, k :: p => match ps[k]? with
    | some u => sub u p
    | none => none
def put (t : Tm) (p : Pl) (u : Tm) : Tm := match p with
  | [] => u
  | k :: p => match t with
    | .bl s => .bl s
    | .nd s ps => match ps[k]? with
      | some v => .nd s (ps.set k (put v p u))
      | none => .nd s ps
mutual
def places : Tm → List Pl
  | .bl _ => [[]]
  | .nd _ ps => [] :: placess 0 ps
def placess : Nat → List Tm → List Pl
  | _, [] => []
  | k, t :: ts => (places t).map (k :: ·) ++ placess (k + 1) ts
end
mutual
theorem places_len : ∀ t, (places t).length = parts t
  | .bl s => rfl
  | .nd s ps => by rw [places, parts, List.length_cons, placess_len 0 ps]; omega
theorem placess_len : ∀ k ts, (placess k ts).length = partss ts
  | _, [] => rfl
  | k, t :: ts => by rw [placess, partss, List.length_append, List.length_map, places_len t, placess_len (k + 1) ts]
end
mutual
theorem places_sub : ∀ (t : Tm) (p : Pl), p ∈ places t ↔ ∃ u, sub t p = some u
  | .bl s, p => by
    cases p with
    | nil => simp [places, sub]
    | cons k p => simp [places, sub]
  | .nd s ps, p => by
    cases p with
    | nil => simp [places, sub]
    | cons k p =>
      rw [places]
      have := placess_sub ps 0 k p
      simp only [Nat.zero_le, true_and, Nat.sub_zero] at this
      rw [List.mem_cons, sub]
      constructor
      · rintro (h | h)
        · cases h
        · obtain ⟨v, hv, u, hu⟩ := this.mp h
          exact ⟨u, by rw [hv]; exact hu⟩
      · rintro ⟨u, hu⟩
        cases hv : ps[k]? with
        | none => rw [hv] at hu; cases hu
        | some v => rw [hv] at hu; exact .inr (this.mpr ⟨v, hv, u, hu⟩)
theorem placess_sub : ∀ (ts : List Tm) (j k : Nat) (p : Pl), k :: p ∈ placess j ts ↔ j ≤ k ∧ ∃ v, ts[k - j]? = some v ∧ ∃ u, sub v p = some u
  | [], j, k, p => by simp [placess]
  | t :: ts, j, k, p => by
    rw [placess, List.mem_append]
    have ih := placess_sub ts (j + 1) k p
    have it := places_sub t p
    constructor
    · rintro (h | h)
      · obtain ⟨q, hq, e⟩ := List.mem_map.mp h
        cases e
        exact ⟨Nat.le_refl _, t, by simp, it.mp hq⟩
      · obtain ⟨h1, v, hv, hu⟩ := ih.mp h
        refine ⟨by omega, v, ?_, hu⟩
        rw [show k - j = (k - (j + 1)) + 1 by omega]; exact hv
    · rintro ⟨h1, v, hv, hu⟩
      rcases Nat.lt_or_ge j k with h | h
      · refine .inr (ih.mpr ⟨h, v, ?_, hu⟩)
        rw [show k - j = (k - (j + 1)) + 1 by omega] at hv; exact hv
      · have e : k = j := by omega
        subst e
        simp at hv
        subst hv
        exact .inl (List.mem_map.mpr ⟨p, it.mpr hu, rfl⟩)
end
theorem sub_dep : ∀ {p : Pl} {t u : Tm}, sub t p = some u → dep u + p.length ≤ dep t
  | [], t, u, h => by cases t <;> (cases h; simp)
  | k :: p, .bl _, u, h => by cases h
  | k :: p, .nd s ps, u, h => by
    rw [sub] at h
    cases hv : ps[k]? with
    | none => rw [hv] at h; cases h
    | some v =>
      rw [hv] at h
      have := sub_dep h
      have := dep_mem (List.mem_of_getElem? hv)
      rw [dep, List.length_cons]; omega
theorem sub_parts : ∀ {p : Pl} {t u : Tm}, sub t p = some u → parts u ≤ parts t
  | [], t, u, h => by cases t <;> (cases h; exact Nat.le_refl _)
  | k :: p, .bl _, u, h => by cases h
  | k :: p, .nd s ps, u, h => by
    rw [sub] at h
    cases hv : ps[k]? with
    | none => rw [hv] at h; cases h
    | some v =>
      rw [hv] at h
      have := sub_parts h
      have := parts_mem (List.mem_of_getElem? hv)
      rw [parts]; omega
theorem sub_ok : ∀ {p : Pl} {t u : Tm}, sub t p = some u → okT t = true → okT u = true
  | [], t, u, h, ht => by cases t <;> (cases h; exact ht)
  | k :: p, .bl _, u, h, _ => by cases h
  | k :: p, .nd s ps, u, h, ht => by
    rw [sub] at h
    rw [okT, Bool.and_eq_true] at ht
    cases hv : ps[k]? with
    | none => rw [hv] at h; cases h
    | some v => rw [hv] at h; exact sub_ok h (okTs_mem.mp ht.2 v (List.mem_of_getElem? hv))
theorem sub_fit {so : List So} {bs : List Str} : ∀ {p : Pl} {t u : Tm}, sub t p = some u → fitT so bs t = true → fitT so bs u = true
  | [], t, u, h, ht => by cases t <;> (cases h; exact ht)
  | k :: p, .bl _, u, h, _ => by cases h
  | k :: p, .nd s ps, u, h, ht => by
    rw [sub] at h
    rw [fitT, Bool.and_eq_true] at ht
    cases hv : ps[k]? with
    | none => rw [hv] at h; cases h
    | some v => rw [hv] at h; exact sub_fit h (fitTs_mem.mp ht.2 v (List.mem_of_getElem? hv))
theorem sub_nil (t : Tm) : sub t [] = some t := by cases t <;> rfl
theorem sub_app : ∀ {p q : Pl} {t u : Tm}, sub t p = some u → sub t (p ++ q) = sub u q
  | [], q, t, u, h => by rw [sub_nil] at h; cases h; rfl
  | k :: p, q, .bl _, u, h => by cases h
  | k :: p, q, .nd s ps, u, h => by
    rw [sub] at h
    rw [List.cons_append, sub]
    cases hv : ps[k]? with
    | none => rw [hv] at h; cases h
    | some v => rw [hv] at h; exact sub_app h
theorem deps_set : ∀ {ts : List Tm} {k : Nat} {v u : Tm} {a d : Nat}, ts[k]? = some v → dep u ≤ a + d → (∀ t ∈ ts, dep t ≤ a) → deps (ts.set k u) ≤ a + d
  | [], k, v, u, a, d, h, _, _ => by simp [deps]
  | t :: ts, 0, v, u, a, d, h, hu, ht => by
    rw [List.set_cons_zero, deps]
    have := deps_le (ts := ts) (n := a) fun w hw => ht w (.tail _ hw)
    omega
  | t :: ts, k + 1, v, u, a, d, h, hu, ht => by
    rw [List.set_cons_succ, deps]
    have := ht t (.head _)
    have := deps_set (k := k) (v := v) (by simpa using h) hu fun w hw => ht w (.tail _ hw)
    omega
theorem put_dep : ∀ {p : Pl} {t u v : Tm}, sub t p = some v → dep (put t p u) ≤ dep t + dep u
  | [], t, u, v, h => by cases t <;> (rw [put]; omega)
  | k :: p, .bl _, u, v, h => by cases h
  | k :: p, .nd s ps, u, v, h => by
    rw [sub] at h
    cases hw : ps[k]? with
    | none => rw [hw] at h; cases h
    | some w =>
      rw [hw] at h
      have := put_dep (u := u) h
      have hwd := dep_mem (List.mem_of_getElem? hw)
      rw [put, hw]
      simp only [dep]
      have := deps_set (ts := ps) (k := k) (v := w) (u := put w p u) (a := deps ps) (d := dep u) hw (by omega) (fun t ht => dep_mem ht)
      omega
theorem partss_set : ∀ {ts : List Tm} {k : Nat} {v u : Tm}, ts[k]? = some v → partss (ts.set k u) + parts v = partss ts + parts u
  | [], k, v, u, h => by simp at h
  | t :: ts, 0, v, u, h => by simp at h; subst h; rw [List.set_cons_zero, partss, partss]; omega
  | t :: ts, k + 1, v, u, h => by
    rw [List.set_cons_succ, partss, partss]
    have := partss_set (k := k) (v := v) (u := u) (ts := ts) (by simpa using h)
    omega
theorem put_parts : ∀ {p : Pl} {t u v : Tm}, sub t p = some v → parts (put t p u) + parts v = parts t + parts u
  | [], t, u, v, h => by rw [sub_nil] at h; cases h; cases t <;> (rw [put]; omega)
  | k :: p, .bl _, u, v, h => by cases h
  | k :: p, .nd s ps, u, v, h => by
    rw [sub] at h
    cases hw : ps[k]? with
    | none => rw [hw] at h; cases h
    | some w =>
      rw [hw] at h
      have := put_parts (u := u) h
      rw [put, hw]
      simp only [parts]
      have := partss_set (ts := ps) (k := k) (v := w) (u := put w p u) hw
      omega
theorem put_ok : ∀ {p : Pl} {t u v : Tm}, sub t p = some v → okT t = true → okT u = true → okT (put t p u) = true
  | [], t, u, v, h, ht, hu => by cases t <;> (rw [put]; exact hu)
  | k :: p, .bl _, u, v, h, _, _ => by cases h
  | k :: p, .nd s ps, u, v, h, ht, hu => by
    rw [sub] at h
    rw [okT, Bool.and_eq_true] at ht
    cases hw : ps[k]? with
    | none => rw [hw] at h; cases h
    | some w =>
      rw [hw] at h
      have hwo := okTs_mem.mp ht.2 w (List.mem_of_getElem? hw)
      rw [put, hw]
      simp only [okT, ht.1, Bool.true_and]
      refine okTs_mem.mpr fun x hx => ?_
      rcases List.mem_or_eq_of_mem_set hx with e | e
      · exact okTs_mem.mp ht.2 x e
      · rw [e]; exact put_ok h hwo hu
theorem put_fit {so : List So} {bs : List Str} : ∀ {p : Pl} {t u v : Tm}, sub t p = some v → fitT so bs t = true → fitT so bs u = true → fitT so bs (put t p u) = true
  | [], t, u, v, h, ht, hu => by cases t <;> (rw [put]; exact hu)
  | k :: p, .bl _, u, v, h, _, _ => by cases h
  | k :: p, .nd s ps, u, v, h, ht, hu => by
    rw [sub] at h
    rw [fitT, Bool.and_eq_true] at ht
    cases hw : ps[k]? with
    | none => rw [hw] at h; cases h
    | some w =>
      rw [hw] at h
      have hwo := fitTs_mem.mp ht.2 w (List.mem_of_getElem? hw)
      rw [put, hw]
      simp only [fitT, List.length_set, ht.1, Bool.true_and]
      refine fitTs_mem.mpr fun x hx => ?_
      rcases List.mem_or_eq_of_mem_set hx with e | e
      · exact fitTs_mem.mp ht.2 x e
      · rw [e]; exact put_fit h hwo hu
/-- what stands there then -/
theorem sub_put : ∀ {p : Pl} {t u v : Tm}, sub t p = some v → sub (put t p u) p = some u
  | [], t, u, v, h => by cases t <;> (rw [put, sub_nil])
  | k :: p, .bl _, u, v, h => by cases h
  | k :: p, .nd s ps, u, v, h => by
    rw [sub] at h
    cases hw : ps[k]? with
    | none => rw [hw] at h; cases h
    | some w =>
      rw [hw] at h
      rw [put, hw]
      simp only [sub]
      rw [List.getElem?_set_self (ix_lt hw)]
      exact sub_put h
theorem put_put : ∀ {p : Pl} {t u v : Tm}, sub t p = some v → put (put t p u) p v = t
  | [], t, u, v, h => by rw [sub_nil] at h; cases h; cases t <;> (simp only [put])
  | k :: p, .bl _, u, v, h => by cases h
  | k :: p, .nd s ps, u, v, h => by
    rw [sub] at h
    cases hw : ps[k]? with
    | none => rw [hw] at h; cases h
    | some w =>
      rw [hw] at h
      have ih := put_put (u := u) h
      simp only [put, hw]
      rw [List.getElem?_set_self (ix_lt hw)]
      simp only [List.set_set, ih]
      congr 1
      apply List.ext_getElem?
      intro j
      rw [List.getElem?_set]
      split
      · rename_i e; subst e; rw [if_pos (ix_lt hw), hw]
      · rfl
theorem sub_beside : ∀ {p q : Pl} {t u v : Tm}, sub t p = some v → q.take p.length ≠ p → p.take q.length ≠ q → sub (put t p u) q = sub t q
  | [], q, t, u, v, h, h1, h2 => absurd (by simp) h1
  | k :: p, [], t, u, v, h, h1, h2 => absurd (by simp) h2
  | k :: p, j :: q, .bl _, u, v, h, h1, h2 => by cases h
  | k :: p, j :: q, .nd s ps, u, v, h, h1, h2 => by
    rw [sub] at h
    cases hw : ps[k]? with
    | none => rw [hw] at h; cases h
    | some w =>
      rw [hw] at h
      simp only [put, hw, sub]
      by_cases e : k = j
      · subst e
        rw [List.getElem?_set_self (ix_lt hw), hw]
        exact sub_beside h (fun z => h1 (by simp [z])) (fun z => h2 (by simp [z]))
      · rw [List.getElem?_set_ne e]

/-! ### tuples of numbers -/
theorem loD_inj {p q : Pl} (h : loD p = loD q) : p = q := by
  have : ∀ p q : Pl, (p.map fun n : Nat => D.int n) = (q.map fun n : Nat => D.int n) → p = q := by
    intro p
    induction p with
    | nil => intro q h; cases q with
      | nil => rfl
      | cons => cases h
    | cons k p ih => intro q h; cases q with
      | nil => cases h
      | cons j q =>
        simp only [List.map_cons, List.cons.injEq, D.int.injEq] at h
        rw [ih q h.2]; congr 1; omega
  exact this p q (by simpa [loD] using h)
theorem plDs_ints {α : Type} (f : α → Int) : ∀ xs : List α, plDs (xs.map fun x => D.int (f x)) = true
  | [] => rfl
  | x :: xs => by rw [List.map_cons, plDs, plDs_ints f xs]; rfl
theorem ints_lay {α : Type} (f : α → Int) : ∀ xs : List α, PyData.canLayAll0 (D.toPs (xs.map fun x => D.int (f x))) = true ∧ PyData.depthAll (D.toPs (xs.map fun x => D.int (f x))) = 0
  | [] => ⟨rfl, rfl⟩
  | x :: xs => by
    obtain ⟨a, b⟩ := ints_lay f xs
    refine ⟨?_, ?_⟩
    · show (true && PyData.canLayAll0 (D.toPs (xs.map fun x => D.int (f x)))) = true
      rw [a]; rfl
    · show max 0 (PyData.depthAll (D.toPs (xs.map fun x => D.int (f x)))) = 0
      rw [b]; rfl
theorem pl_lo (p : Pl) : plD (loD p) = true := plDs_ints _ p
theorem eqOk_lo (p : Pl) : (loD p).eqOk = true := by
  obtain ⟨a, b⟩ := ints_lay (fun n : Nat => (n : Int)) p
  show (PyData.canLayAll0 _ && decide (PyData.depthAll _ + 1 ≤ 150)) = true
  rw [a, b]; rfl
section
variable {β : Type}
theorem p_eqLo {p q : Pl} {K : D → P β} : oP (op2 .eq (loD p) (loD q)) K = K (.bl (decide (p = q))) := p_eq (pl_lo p) (pl_lo q) (eqOk_lo p) (eqOk_lo q) ⟨loD_inj, fun e => by rw [e]⟩
theorem p_neLo {p q : Pl} {K : D → P β} : oP (op2 .ne (loD p) (loD q)) K = K (.bl (!decide (p = q))) := p_ne (pl_lo p) (pl_lo q) (eqOk_lo p) (eqOk_lo q) ⟨loD_inj, fun e => by rw [e]⟩
theorem p_slLo {p : Pl} {n : Nat} {K : D → P β} : oP (opSl (loD p) none (some n)) K = K (loD (p.take n)) := by
  rw [loD, p_slT, cut_take _ _ (by omega), ← List.map_take]; rfl
end
theorem atI_kid {s : Str} {ps : List Tm} {k : Nat} {u : Tm} (h : ps[k]? = some u) : L2.atI (D.str s :: ps.map toD) (1 + (k : Int)) = some (toD u) := by
  rw [show (1 + (k : Int)) = ((k + 1 : Nat) : Int) by omega]
  refine atI_nat ?_
  simp [h]
section
variable {T : Tab}
theorem c_part_at (h : Is2 T "part_at" X_part_at) (hi : HI T) {n : Nat} (hn : 3 ≤ n) {t u : Tm} {p : Pl} (hs : sub t p = some u) (hp : p.length ≤ 10000) : callC T n "part_at" [toD t, loD p] = .ok (toD u, .non) := by
  obtain ⟨m, rfl⟩ : ∃ m, n = m + 1 := ⟨n - 1, by omega⟩
  rw [h]
  unfold X_part_at
  rw [loD, p_seqT, p_if (by rw [List.length_map]; exact sz_of (by omega))]
  refine loop1_inv p (fun n : Nat => .int n) toD (fun i v => sub t (p.take i) = some v) t (by rw [List.take_zero]; exact sub_nil t) (fun i v k hv hk => ?_) (fun v hv => ?_)
  · have hi' := ix_lt hk
    have hs' : sub v (p.drop i) = some u := by
      have := sub_app (q := p.drop i) hv
      rw [List.take_append_drop, hs] at this; exact this.symm
    have hd : p.drop i = k :: p.drop (i + 1) := by
      rw [List.drop_eq_getElem_cons hi']
      congr 1
      have := List.getElem?_eq_getElem hi'
      rw [hk] at this; cases this; rfl
    rw [hd] at hs'
    cases v with
    | bl s => cases hs'
    | nd s ps =>
      rw [sub] at hs'
      cases hw : ps[k]? with
      | none => rw [hw] at hs'; cases hs'
      | some w =>
        refine ⟨w, ?_, fun q => ?_⟩
        · have : p.take (i + 1) = p.take i ++ [k] := by rw [List.take_add_one, hk]; rfl
          rw [this, sub_app hv, sub, hw]; exact sub_nil w
        · have hl := ix_lt hw
          refine (bk (c_inner hi (n := m) (by omega) (.nd s ps)) _).trans ?_
          try dsimp only
          rw [p_le, p_B, p_j1, p_ci (decide_eq_true (by omega)), p_lenL, List.length_map, p_lt]
          try dsimp only
          rw [p_B, p_cn (by rw [decide_eq_true (by simp only [kids]; omega)]; rfl), p_idxL (atI_nat (d := toD w) (by simp [kids, hw]))]
  · rw [List.take_length, hs] at hv
    cases hv; rfl
theorem c_law_part (h : Is2 T "_law_part" X__law_part) {n : Nat} (hn : 1 ≤ n) {t u : Tm} {p : Pl} (hs : sub t p = some u) (hp : p.length ≤ 10000) : callC T n "_law_part" [toD t, loD p] = .ok (toD u, .non) := by
  obtain ⟨m, rfl⟩ : ∃ m, n = m + 1 := ⟨n - 1, by omega⟩
  rw [h]
  unfold X__law_part
  rw [loD, p_seqT, p_if (by rw [List.length_map]; exact sz_of (by omega))]
  refine loop1_inv p (fun n : Nat => .int n) toD (fun i v => sub t (p.take i) = some v) t (by rw [List.take_zero]; exact sub_nil t) (fun i v k hv hk => ?_) (fun v hv => ?_)
  · have hi' := ix_lt hk
    have hs' : sub v (p.drop i) = some u := by
      have := sub_app (q := p.drop i) hv
      rw [List.take_append_drop, hs] at this; exact this.symm
    have hd : p.drop i = k :: p.drop (i + 1) := by
      rw [List.drop_eq_getElem_cons hi']
      congr 1
      have := List.getElem?_eq_getElem hi'
      rw [hk] at this; cases this; rfl
    rw [hd] at hs'
    cases v with
    | bl s => cases hs'
    | nd s ps =>
      rw [sub] at hs'
      cases hw : ps[k]? with
      | none => rw [hw] at hs'; cases hs'
      | some w =>
        refine ⟨w, ?_, fun q => ?_⟩
        · have : p.take (i + 1) = p.take i ++ [k] := by rw [List.take_add_one, hk]; rfl
          rw [this, sub_app hv, sub, hw]; exact sub_nil w
        · rw [p_addI, toD, toDs_map, p_idxT (atI_kid hw)]
  · rw [List.take_length, hs] at hv
    cases hv; rfl
theorem c_with_part (h : Is3 T "with_part" X_with_part) (hi : HI T) : ∀ (n : Nat) {t u v : Tm} {p : Pl}, p.length + 3 ≤ n → sub t p = some v → parts t ≤ 90000 → callC T n "with_part" [toD t, loD p, toD u] = .ok (toD (put t p u), .non) := by
  intro n
  induction n with
  | zero => intro t u v p hp; omega
  | succ m ih =>
    intro t u v p hp hs ht
    rw [h]
    unfold X_with_part
    rw [show D.tup [] = loD [] from rfl, p_eqLo, p_B]
    cases p with
    | nil => rw [p_ci (by simp)]; cases t <;> rw [put]
    | cons k p =>
      rw [p_cn (by simp)]
      cases t with
      | bl s => cases hs
      | nd s ps =>
        rw [sub] at hs
        cases hw : ps[k]? with
        | none => rw [hw] at hs; cases hs
        | some w =>
          rw [hw] at hs
          have hl := ix_lt hw
          have hk := kids_len (.nd s ps)
          simp only [kids] at hk
          refine (bk (c_inner hi (n := m) (by simp at hp; omega) (.nd s ps)) _).trans ?_; try dsimp only
          simp only [kids]
          rw [p_ldL, loD, List.map_cons, p_idx0T, p_idxL (atI_nat (d := toD w) (by simp [hw])), p_slT, cut_tail]
          refine (bk (ih (t := w) (u := u) (v := v) (p := p) (by simp at hp; omega) hs (by have := parts_mem (List.mem_of_getElem? hw); rw [parts] at ht; omega)) _).trans ?_; try dsimp only
          rw [p_idx0T]
          have sp : ∀ K : D → P (D × D), setP (.lst (ps.map toD)) (.int (k : Int)) (toD (put w p u)) K = K (.lst ((ps.set k (put w p u)).map toD)) := fun K => by
            show optP (L2.ixN (ps.map toD).length (k : Int)) (fun n => K (.lst ((ps.map toD).set n (toD (put w p u))))) = _
            have : L2.ixN (ps.map toD).length (k : Int) = some k := by
              unfold L2.ixN
              rw [if_pos (by omega), if_pos (by rw [List.length_map]; omega)]; simp
            rw [this, p_opt, List.map_set]
          refine (sp _).trans ?_
          rw [toD, p_idx0T, p_tupL, p_addT (by simp; exact sz_of (by omega)), tup_cons, put, hw]
theorem c_put_at (h : Is3 T "put_at" X_put_at) (h1 : Is2 T "part_at" X_part_at) (h2 : Is3 T "with_part" X_with_part) (hi : HI T) {n : Nat} {t u v : Tm} {p : Pl} (hn : p.length + 4 ≤ n) (hs : sub t p = some v) (ht : parts t ≤ 90000) (hp : p.length ≤ 10000) : callC T n "put_at" [toD t, loD p, toD u] = .ok (toD (put t p u), .non) := by
  obtain ⟨m, rfl⟩ : ∃ m, n = m + 1 := ⟨n - 1, by omega⟩
  rw [h]
  unfold X_put_at
  refine (bk (c_part_at h1 hi (n := m) (by omega) hs hp) _).trans ?_; try dsimp only
  refine (bk (c_with_part h2 hi m (u := u) (by omega) hs ht) _).trans ?_
  rfl
theorem c_law_put (h : Is3 T "_law_put" X__law_put) : ∀ (n : Nat) {t u v : Tm} {p : Pl}, p.length + 1 ≤ n → sub t p = some v → parts t ≤ 90000 → callC T n "_law_put" [toD t, loD p, toD u] = .ok (toD (put t p u), .non) := by
  intro n
  induction n with
  | zero => intro t u v p hp; omega
  | succ m ih =>
    intro t u v p hp hs ht
    rw [h]
    unfold X__law_put
    rw [show D.tup [] = loD [] from rfl, p_eqLo, p_B]
    cases p with
    | nil => rw [p_ci (by simp)]; cases t <;> rw [put]
    | cons k p =>
      rw [p_cn (by simp)]
      cases t with
      | bl s => cases hs
      | nd s ps =>
        rw [sub] at hs
        cases hw : ps[k]? with
        | none => rw [hw] at hs; cases hs
        | some w =>
          rw [hw] at hs
          have hl := ix_lt hw
          have hk := kids_len (.nd s ps)
          simp only [kids] at hk
          rw [loD, List.map_cons, p_idx0T, p_addI, p_I, toD, toDs_map, p_slT, cut_take _ _ (by omega), p_idxT (atI_kid hw), p_slT, cut_tail]
          refine (bk (ih (t := w) (u := u) (v := v) (p := p) (by simp at hp; omega) hs (by have := parts_mem (List.mem_of_getElem? hw); rw [parts] at ht; omega)) _).trans ?_; try dsimp only
          rw [p_addT (by simp; exact sz_of (by omega)), p_addI, p_I, p_slT, cut_drop _ _ (by omega), p_addT (by simp; exact sz_of (by omega)), put, hw]
          simp only
          rw [toD, toDs_map]
          congr 3
          rw [show (1 + (k : Int)).toNat = k + 1 by omega, show (1 + (k : Int) + 1).toNat = k + 1 + 1 by omega, List.take_succ_cons, List.drop_succ_cons, ← List.map_take, ← List.map_drop]
          rw [List.set_eq_take_append_cons_drop, if_pos hl]
          simp
theorem c_law_places (h : Is1 T "_law_places" X__law_places) : ∀ (n : Nat) (t : Tm), dep t ≤ n → parts t ≤ 10000 → callC T n "_law_places" [toD t] = .ok (.lst ((places t).map loD), .non) := by
  intro n
  induction n with
  | zero => intro t hd; have := dep_pos t; omega
  | succ m ih =>
    intro t hd ht
    rw [h]
    unfold X__law_places
    cases t with
    | bl s => rfl
    | nd s ps =>
      have hk := kids_len (.nd s ps)
      simp only [kids] at hk
      have isT : ∀ {K : D → P (D × D)}, oP (op1 (.isK .tup) (.tup (.str s :: toDs ps))) K = K (.bl true) := fun {K} => Eq.trans rfl rfl
      rw [toD, isT, p_B, p_j1, p_ct, p_lenT, p_subI, toDs_map, List.length_cons, List.length_map, p_rng (by omega) (by omega), p_if (by rw [rangeD_len]; exact sz_of (by omega)), rangeD0]
      rw [show (((ps.length + 1 : Nat) : Int) - 1).toNat = ps.length by omega]
      refine (loop1_inv (List.range ps.length) (fun i : Nat => .int i) (fun acc : List Pl => .lst (acc.map loD)) (fun i acc => acc = [] :: placess 0 (ps.take i)) [[]] (by simp [placess]) (fun i acc x hacc hx => ?_) (fun acc hacc => ?_))
      · have hi := ix_lt hx
        rw [List.length_range] at hi
        have hx' : x = i := by rw [List.getElem?_range hi] at hx; cases hx; rfl
        subst hx'
        obtain ⟨u, hu⟩ : ∃ u, ps[x]? = some u := ⟨_, List.getElem?_eq_getElem hi⟩
        have hum := List.mem_of_getElem? hu
        have pu := parts_mem hum
        have du := dep_mem hum
        rw [dep] at hd
        rw [parts] at ht
        have hal : acc.length ≤ 1 + partss ps := by
          rw [hacc, List.length_cons, placess_len]
          have := congrArg partss (List.take_append_drop x ps)
          rw [partss_app] at this
          omega
        have step : ∀ (j : Nat) (ts : List Tm) (x : Nat) (u : Tm), ts[x]? = some u → placess j (ts.take (x + 1)) = placess j (ts.take x) ++ (places u).map ((j + x) :: ·) := by
          intro j ts
          induction ts generalizing j with
          | nil => intro x u h; simp at h
          | cons t ts ihs =>
            intro x u h
            cases x with
            | zero => simp at h; subst h; simp [placess]
            | succ x =>
              rw [List.take_succ_cons, placess, ihs (j + 1) x u (by simpa using h), List.take_succ_cons, placess, List.append_assoc, show j + 1 + x = j + (x + 1) by omega]
        refine ⟨acc ++ (places u).map (x :: ·), ?_, fun q => ?_⟩
        · rw [hacc, step 0 ps x u hu, Nat.zero_add]; rfl
        · rw [p_addI, p_idxT (atI_kid hu)]
          refine (bk (ih u (by omega) (by omega)) _).trans ?_; try dsimp only
          rw [p_seqL, p_if (by rw [List.length_map, places_len]; exact sz_of (by omega))]
          refine (lc0_map (places u) loD (fun p => loD (x :: p)) fun p hp k => ?_).trans ?_
          · obtain ⟨w, hw⟩ := (places_sub u p).mp hp
            have := sub_dep hw
            have := sub_parts hw
            have pl : p.length ≤ 90000 := by
              have h1 : p.length ≤ parts u := by
                have : ∀ {p : Pl} {t u : Tm}, sub t p = some u → p.length ≤ parts t := by
                  intro p
                  induction p with
                  | nil => intro t u _; simp
                  | cons k p ihp =>
                    intro t u h
                    cases t with
                    | bl => cases h
                    | nd s ps =>
                      rw [sub] at h
                      cases hv : ps[k]? with
                      | none => rw [hv] at h; cases h
                      | some v =>
                        rw [hv] at h
                        have := ihp h
                        have := parts_mem (List.mem_of_getElem? hv)
                        rw [parts, List.length_cons]; omega
                exact this hw
              omega
            rw [loD, p_addT (by simp; exact sz_of (by omega))]
            rfl
          · rw [p_addL (by rw [List.length_map, List.length_map, places_len]; exact sz_of (by omega))]
            simp [Function.comp_def]
      · rw [List.length_range, List.take_length] at hacc
        rw [hacc, places]
end
end Pu
end

section
set_option Elab.async false
set_option linter.all false
set_option maxRecDepth 100000
set_option maxHeartbeats 1000000
namespace Pu
open En PySem Sh

/-! ### blanks in the order in which they come first -/
mutual
def flatB : Tm → List Str
  | .bl s => [s]
  | .nd _ ps => flatBs ps
def flatBs : List Tm → List Str
  | [] => []
  | t :: ts => flatB t ++ flatBs ts
end
def add1 {α : Type} [DecidableEq α] (acc : List α) (x : α) : List α := if x ∈ acc then acc else acc ++ [x]
def addAll {α : Type} [DecidableEq α] (acc xs : List α) : List α := xs.foldl add1 acc
def blanksOf (t : Tm) : List Str := addAll [] (flatB t)
section
variable {α : Type} [DecidableEq α]
theorem addAll_app (acc xs ys : List α) : addAll acc (xs ++ ys) = addAll (addAll acc xs) ys := List.foldl_append
theorem mem_addAll (acc xs : List α) (y : α) : y ∈ addAll acc xs ↔ y ∈ acc ∨ y ∈ xs := by
  induction xs generalizing acc with
  | nil => simp [addAll]
  | cons x xs ih =>
    show y ∈ addAll (add1 acc x) xs ↔ _
    rw [ih]
    unfold add1
    split
    · rename_i h
      constructor
      · rintro (a | a)
        · exact .inl a
        · exact .inr (.tail _ a)
      · rintro (a | a)
        · exact .inl a
        · rcases List.mem_cons.mp a with e | e
          · exact .inl (e ▸ h)
          · exact .inr e
    · simp [or_assoc]
theorem addAll_filter (acc xs : List α) : acc ++ (addAll [] xs).filter (fun y => !decide (y ∈ acc)) = addAll acc xs := by
  have snoc : ∀ (acc xs : List α) (x : α), addAll acc (xs ++ [x]) = add1 (addAll acc xs) x := fun acc xs x => by rw [addAll_app]; rfl
  have : ∀ (n : Nat) (xs : List α), xs.length = n → acc ++ (addAll [] xs).filter (fun y => !decide (y ∈ acc)) = addAll acc xs := by
    intro n
    induction n with
    | zero => intro xs h; rw [List.length_eq_zero_iff.mp h]; simp [addAll]
    | succ n ih =>
      intro xs h
      have hne : xs ≠ [] := fun z => by rw [z] at h; cases h
      obtain ⟨l, a, rfl⟩ : ∃ l a, xs = l ++ [a] := ⟨xs.dropLast, xs.getLast hne, (List.dropLast_concat_getLast hne).symm⟩
      have ihl := ih l (by simpa using h)
      rw [snoc, snoc, ← ihl]
      unfold add1
      by_cases h1 : a ∈ addAll [] l
      · rw [if_pos h1, if_pos]
        by_cases h2 : a ∈ acc
        · exact List.mem_append_left _ h2
        · exact List.mem_append_right _ (List.mem_filter.mpr ⟨h1, by simp [h2]⟩)
      · rw [if_neg h1, List.filter_append]
        by_cases h2 : a ∈ acc
        · rw [if_pos (List.mem_append_left _ h2)]
          simp [h2]
        · rw [if_neg (fun z => (List.mem_append.mp z).elim h2 (fun z => h1 (List.mem_filter.mp z).1))]
          simp [h2]
  exact this xs.length xs rfl
theorem nodup_addAll (acc xs : List α) (h : acc.Nodup) : (addAll acc xs).Nodup := by
  induction xs generalizing acc with
  | nil => exact h
  | cons x xs ih =>
    refine ih (add1 acc x) ?_
    unfold add1
    split
    · exact h
    · rename_i hn
      rw [List.nodup_append]
      exact ⟨h, by simp, fun a ha b hb e => by rw [List.mem_singleton.mp hb] at e; exact hn (e ▸ ha)⟩
theorem len_addAll (acc xs : List α) : (addAll acc xs).length ≤ acc.length + xs.length := by
  induction xs generalizing acc with
  | nil => simp [addAll]
  | cons x xs ih =>
    have := ih (add1 acc x)
    have h2 : (add1 acc x).length ≤ acc.length + 1 := by unfold add1; split <;> simp
    show (addAll (add1 acc x) xs).length ≤ _
    rw [List.length_cons]; omega
end
mutual
theorem flat_len : ∀ t, (flatB t).length ≤ parts t
  | .bl _ => by simp [flatB, parts]
  | .nd _ ps => by rw [flatB, parts]; have := flats_len ps; omega
theorem flats_len : ∀ ts, (flatBs ts).length ≤ partss ts
  | [] => by simp [flatBs]
  | t :: ts => by rw [flatBs, partss, List.length_append]; have := flat_len t; have := flats_len ts; omega
end
mutual
theorem flat_ok : ∀ t, okT t = true → ∀ s ∈ flatB t, PyData.strOk s = true
  | .bl _, h, s, hs => by rw [flatB] at hs; rw [List.mem_singleton.mp hs]; exact h
  | .nd _ ps, h, s, hs => by rw [okT, Bool.and_eq_true] at h; exact flats_ok ps h.2 s hs
theorem flats_ok : ∀ ts, okTs ts = true → ∀ s ∈ flatBs ts, PyData.strOk s = true
  | [], _, s, hs => by cases hs
  | t :: ts, h, s, hs => by
    rw [okTs, Bool.and_eq_true] at h
    rw [flatBs] at hs
    rcases List.mem_append.mp hs with e | e
    · exact flat_ok t h.1 s e
    · exact flats_ok ts h.2 s e
end
mutual
theorem flat_fit {so : List So} {bs : List Str} : ∀ t, fitT so bs t = true → ∀ s ∈ flatB t, s ∈ bs
  | .bl _, h, s, hs => by rw [flatB] at hs; rw [List.mem_singleton.mp hs]; exact List.contains_iff_mem.mp h
  | .nd _ ps, h, s, hs => by rw [fitT, Bool.and_eq_true] at h; exact flats_fit ps h.2 s hs
theorem flats_fit {so : List So} {bs : List Str} : ∀ ts, fitTs so bs ts = true → ∀ s ∈ flatBs ts, s ∈ bs
  | [], _, s, hs => by cases hs
  | t :: ts, h, s, hs => by
    rw [fitTs, Bool.and_eq_true] at h
    rw [flatBs] at hs
    rcases List.mem_append.mp hs with e | e
    · exact flat_fit t h.1 s e
    · exact flats_fit ts h.2 s e
end
theorem flatBs_app : ∀ a b : List Tm, flatBs (a ++ b) = flatBs a ++ flatBs b
  | [], b => rfl
  | t :: a, b => by rw [List.cons_append, flatBs, flatBs, flatBs_app a b, List.append_assoc]
theorem blanksOf_nodup (t : Tm) : (blanksOf t).Nodup := nodup_addAll _ _ List.nodup_nil
theorem mem_blanksOf {t : Tm} {s : Str} : s ∈ blanksOf t ↔ s ∈ flatB t := by unfold blanksOf; rw [mem_addAll]; simp
theorem blanksOf_len (t : Tm) : (blanksOf t).length ≤ parts t := by have := len_addAll [] (flatB t); have := flat_len t; unfold blanksOf; simp at *; omega

/-! ### fitting -/
mutual
def fitsF : Tm → Tm → Fi → Bool × Fi
  | .bl s, t, φ => match look φ s with
    | some u => (decide (u = t), φ)
    | none => (true, φ ++ [(s, t)])
  | .nd _ _, .bl _, φ => (false, φ)
  | .nd a ps, .nd b qs, φ => if a = b ∧ ps.length = qs.length then fitsL ps qs φ else (false, φ)
def fitsL : List Tm → List Tm → Fi → Bool × Fi
  | p :: ps, q :: qs, φ => if (fitsF p q φ).1 then fitsL ps qs (fitsF p q φ).2 else (false, (fitsF p q φ).2)
  | _, _, φ => (true, φ)
end
def res (φ : Fi) (bs : List Str) : Fi := bs.map fun b => (b, fillT φ (.bl b))
theorem look_res {φ : Fi} {bs : List Str} {s : Str} : look (res φ bs) s = if s ∈ bs then some (fillT φ (.bl s)) else none := by
  induction bs with
  | nil => simp [res, look]
  | cons b bs ih =>
    show look ((b, fillT φ (.bl b)) :: res φ bs) s = _
    rw [look]
    by_cases e : b = s
    · subst e; simp
    · rw [if_neg e, ih]
      have : s ∈ b :: bs ↔ s ∈ bs := by simp [Ne.symm e]
      by_cases h : s ∈ bs
      · rw [if_pos h, if_pos (this.mpr h)]
      · rw [if_neg h, if_neg (fun z => h (this.mp z))]
mutual
theorem fits_fill (φ : Fi) : ∀ (t : Tm) (acc : List Str), fitsF t (fillT φ t) (res φ acc) = (true, res φ (addAll acc (flatB t)))
  | .bl s, acc => by
    rw [fitsF, look_res]
    show _ = (true, res φ (add1 acc s))
    unfold add1
    by_cases h : s ∈ acc
    · rw [if_pos h, if_pos h]; simp
    · rw [if_neg h, if_neg h]; simp [res]
  | .nd s ps, acc => by
    rw [fillT, fitsF, if_pos ⟨rfl, by rw [fillTs_map, List.length_map]⟩, flatB]
    exact fitss_fill φ ps acc
theorem fitss_fill (φ : Fi) : ∀ (ts : List Tm) (acc : List Str), fitsL ts (fillTs φ ts) (res φ acc) = (true, res φ (addAll acc (flatBs ts)))
  | [], acc => rfl
  | t :: ts, acc => by
    rw [fillTs, fitsL, fits_fill φ t acc]
    simp only [if_true]
    rw [fitss_fill φ ts, flatBs, addAll_app]
end
/-- what may come of it -/
structure FO (m : Nat) (φ : Fi) : Prop extends FiOk 70 m φ
mutual
theorem fits_fo : ∀ (p t : Tm) {φ : Fi} {m : Nat}, FiOk 70 m φ → okT p = true → okT t = true → dep t ≤ 70 → FiOk 70 (m + parts p) (fitsF p t φ).2
  | .bl s, t, φ, m, h, hp, ht, hd => by
    rw [fitsF]
    cases hl : look φ s with
    | some u => exact h.mono (Nat.le_refl _) (by omega)
    | none =>
      have hn := look_none.mp hl
      refine ⟨?_, ?_, ?_, ?_, ?_⟩
      · show (fkeys (φ ++ [(s, t)])).Nodup
        unfold fkeys
        rw [List.map_append, List.nodup_append]
        exact ⟨h.nd, by simp, fun a ha b hb e => by simp at hb; exact hn (by rw [← hb, ← e]; exact ha)⟩
      · have := h.len; simp [parts]; omega
      · intro q hq; rcases List.mem_append.mp hq with e | e
        · exact h.k q e
        · rw [List.mem_singleton.mp e]; exact hp
      · intro q hq; rcases List.mem_append.mp hq with e | e
        · exact h.v q e
        · rw [List.mem_singleton.mp e]; exact ht
      · intro q hq; rcases List.mem_append.mp hq with e | e
        · exact h.d q e
        · rw [List.mem_singleton.mp e]; exact hd
  | .nd a ps, .bl _, φ, m, h, _, _, _ => by rw [fitsF]; exact h.mono (Nat.le_refl _) (by omega)
  | .nd a ps, .nd b qs, φ, m, h, hp, ht, hd => by
    rw [okT, Bool.and_eq_true] at hp ht
    rw [fitsF, parts]
    split
    · exact (fitss_fo ps qs h hp.2 ht.2 (by rw [dep] at hd; omega)).mono (Nat.le_refl _) (by omega)
    · exact h.mono (Nat.le_refl _) (by omega)
theorem fitss_fo : ∀ (ps ts : List Tm) {φ : Fi} {m : Nat}, FiOk 70 m φ → okTs ps = true → okTs ts = true → deps ts ≤ 70 → FiOk 70 (m + partss ps) (fitsL ps ts φ).2
  | [], ts, φ, m, h, _, _, _ => by cases ts <;> exact h.mono (Nat.le_refl _) (by omega)
  | p :: ps, [], φ, m, h, _, _, _ => h.mono (Nat.le_refl _) (by omega)
  | p :: ps, q :: qs, φ, m, h, hp, ht, hd => by
    rw [okTs, Bool.and_eq_true] at hp ht
    rw [deps] at hd
    have h1 := fits_fo p q h hp.1 ht.1 (by omega)
    rw [fitsL, partss]
    split
    · have := fitss_fo ps qs h1 hp.2 ht.2 (by omega)
      rw [Nat.add_assoc] at this; exact this
    · exact h1.mono (Nat.le_refl _) (by omega)
end
theorem zipD_map : ∀ ps qs : List Tm, zipD (ps.map toD) (qs.map toD) = (ps.zip qs).map fun pq => .tup [toD pq.1, toD pq.2]
  | [], qs => by cases qs <;> rfl
  | p :: ps, [] => rfl
  | p :: ps, q :: qs => by rw [List.map_cons, List.map_cons, zipD, zipD_map ps qs]; rfl
theorem sdp_fi (φ : Fi) (s : Str) (t : Tm) : sdp (fiD φ) (.str s) (toD t) = fiD (if (look φ s).isSome then φ else φ ++ [(s, t)]) := by
  unfold sdp
  rw [dget_fi, Option.isSome_map]
  cases hl : look φ s with
  | some u => rfl
  | none =>
    simp only [Option.isSome_none, Bool.false_eq_true, if_false]
    rw [dput_fi]
    congr 1
    unfold fput
    have : φ.any (fun p => p.1 = s) = false := by
      rw [List.any_eq_false]
      intro p hp
      have := look_none.mp hl
      simp
      exact fun e => this (List.mem_map.mpr ⟨p, hp, e⟩)
    rw [this]; rfl
section
variable {T : Tab}
structure HFi (T : Tab) : Prop extends HI T where
  fi : Is3 T "fits_into" X_fits_into
  ft : Is2 T "fits" X_fits
theorem c_fits_into (h : HFi T) : ∀ (n : Nat) {p t : Tm} {φ : Fi} {m : Nat}, dep p + 3 ≤ n → okT p = true → okT t = true → dep t ≤ 70 → FiOk 70 m φ → m + parts p ≤ 10000 → parts t ≤ 90000 →
    callC T n "fits_into" [toD p, toD t, .dic (fiD φ)] = .ok (.bl (fitsF p t φ).1, .dic (fiD (fitsF p t φ).2)) := by
  intro n
  induction n with
  | zero => intro p t φ m hd; omega
  | succ n ih =>
    intro p t φ m hd hp ht htd hφ hm htp
    rw [h.fi]
    unfold X_fits_into
    have hlen := hφ.len
    refine (bk (c_is_blank h.bk (n := n) (by omega) p) _).trans ?_; try dsimp only
    rw [p_B]
    cases p with
    | bl s =>
      rw [isB, p_ct, toD, p_S, p_D, p_if (by rw [strK_fi]; unfold fiD; rw [List.length_map]; exact sz_of (by omega))]
      rw [sdp_fi, dget_fi, fitsF]
      cases hl : look φ s with
      | some u =>
        have hu := look_mem hl
        simp only [Option.map_some, Option.getD_some, Option.isSome_some, if_true]
        rw [p_eqT (hφ.v _ hu) ht (Nat.le_trans (hφ.d _ hu) (by omega)) (by omega)]
      | none =>
        simp only [Option.map_none, Option.getD_none, Option.isSome_none, Bool.false_eq_true, if_false]
        rw [p_eqT ht ht (by omega) (by omega)]
        simp
    | nd a ps =>
      rw [isB, p_cf]
      refine (bk (c_is_blank h.bk (n := n) (by omega) t) _).trans ?_; try dsimp only
      rw [p_B, p_j1]
      cases t with
      | bl s =>
        rw [isB, p_ct]
        try dsimp only
        rw [p_B, p_ct, fitsF]
      | nd b qs =>
        rw [okT, Bool.and_eq_true] at hp ht
        have hk1 := kids_len (.nd a ps)
        have hk2 := kids_len (.nd b qs)
        simp only [kids, parts] at hk1 hk2 hm htp
        rw [dep] at hd htd
        rw [isB, p_cf, toD, toD, p_idx0T, p_idx0T, p_ne (p := a = b) rfl rfl (eqOk_str hp.1) (eqOk_str ht.1) (by simp), p_B, p_j1]
        have fin : ¬ (a = b ∧ ps.length = qs.length) → (P.ok (D.bl false, D.dic (fiD φ)) : P (D × D)) = .ok (.bl (fitsF (.nd a ps) (.nd b qs) φ).1, .dic (fiD (fitsF (.nd a ps) (.nd b qs) φ).2)) := fun hn => by rw [fitsF, if_neg hn]
        by_cases ha : a = b
        · rw [p_cn (by simp [ha]), p_lenT, p_lenT, p_neI, List.length_cons, List.length_cons, toDs_map, toDs_map, List.length_map, List.length_map]
          try dsimp only
          rw [p_B]
          by_cases hl : ps.length = qs.length
          · rw [p_cn (by simp [hl])]
            rw [← toDs_map, ← toDs_map, ← toD, ← toD]
            refine (bk (c_inner h.toHI (n := n) (by omega) (.nd a ps)) _).trans ?_; try dsimp only
            refine (bk (c_inner h.toHI (n := n) (by omega) (.nd b qs)) _).trans ?_; try dsimp only
            simp only [kids]
            rw [p_zipL, zipD_map, p_if (by rw [List.length_map, List.length_zip]; exact sz_of (by omega))]
            rw [fitsF, if_pos ⟨ha, hl⟩]
            refine loop1_ret (ps.zip qs) (fun pq => .tup [toD pq.1, toD pq.2]) (fun φ => .dic (fiD φ)) (fun i ψ => fitsL ps qs φ = fitsL (ps.drop i) (qs.drop i) ψ ∧ FiOk 70 (m + partss (ps.take i)) ψ) φ ⟨by simp, by simpa [partss] using hφ⟩ (fun i ψ x hI hx => ?_) (fun ψ hI => ?_)
            · obtain ⟨x1, x2⟩ := x
              have hi := ix_lt hx
              rw [List.length_zip] at hi
              have hi1 : i < ps.length := by omega
              have hi2 : i < qs.length := by omega
              rw [List.getElem?_eq_getElem (by rw [List.length_zip]; omega), List.getElem_zip] at hx
              cases hx
              have d1 := List.drop_eq_getElem_cons hi1
              have d2 := List.drop_eq_getElem_cons hi2
              have t1 : ps.take (i + 1) = ps.take i ++ [ps[i]] := by rw [List.take_add_one, List.getElem?_eq_getElem hi1]; rfl
              have pm : ps[i] ∈ ps := List.getElem_mem _
              have qm : qs[i] ∈ qs := List.getElem_mem _
              have e1 := hI.1
              rw [d1, d2, fitsL] at e1
              have pp := congrArg partss (List.take_append_drop i ps)
              rw [d1, partss_app, partss] at pp
              have po := okTs_mem.mp hp.2 _ pm
              have qo := okTs_mem.mp ht.2 _ qm
              have dq := dep_mem qm
              have dp := dep_mem pm
              have pq := parts_mem qm
              have ihc := ih (p := ps[i]) (t := qs[i]) (φ := ψ) (m := m + partss (ps.take i)) (by omega) po qo (by omega) hI.2 (by omega) (by omega)
              have fo := fits_fo ps[i] qs[i] hI.2 po qo (by omega)
              cases hb : (fitsF ps[i] qs[i] ψ).1 with
              | true =>
                refine .inl ⟨(fitsF ps[i] qs[i] ψ).2, ⟨by rw [e1, hb]; rfl, by rw [t1, partss_app, partss, partss, Nat.add_zero, ← Nat.add_assoc]; exact fo⟩, fun k => ?_⟩
                rw [p_TLt, p_un2]
                refine (bk ihc _).trans ?_
                dsimp only
                rw [hb, p_B]; rfl
              | false =>
                refine .inr fun k => ?_
                rw [p_TLt, p_un2]
                refine (bk ihc _).trans ?_
                dsimp only
                rw [e1, hb, p_B]; rfl
            · obtain ⟨e1, _⟩ := hI
              rw [e1, List.drop_of_length_le (by rw [List.length_zip]; omega), fitsL]
              · intro _ _ _ _ z; cases z
          · rw [p_ci (by simp; omega)]
            exact fin (fun z => hl z.2)
        · rw [p_ci (by simp [ha])]
          try dsimp only
          rw [p_B, p_ct]
          exact fin (fun z => ha z.1)
theorem c_fits (h : HFi T) {n : Nat} {p t : Tm} (hn : dep p + 4 ≤ n) (hp : okT p = true) (ht : okT t = true) (htd : dep t ≤ 70) (hpp : parts p ≤ 10000) (htp : parts t ≤ 90000) :
    callC T n "fits" [toD p, toD t] = .ok (if (fitsF p t []).1 then .dic (fiD (fitsF p t []).2) else .non, .non) := by
  obtain ⟨m, rfl⟩ : ∃ m, n = m + 1 := ⟨n - 1, by omega⟩
  rw [h.ft]
  unfold X_fits
  rw [p_ldD]
  refine (bk (c_fits_into h m (p := p) (t := t) (φ := []) (m := 0) (by omega) hp ht htd FiOk.nil (by omega) htp) _).trans ?_; try dsimp only
  rw [p_B]
  cases (fitsF p t []).1 with
  | true => rfl
  | false => rfl
end
end Pu
end

section
set_option Elab.async false
set_option linter.all false
set_option maxRecDepth 100000
set_option maxHeartbeats 1000000
namespace Pu
open En PySem Sh
section
variable {β : Type}
theorem p_idxD {φ : Fi} {s : Str} {u : Tm} {K : D → P β} (h : look φ s = some u) : oP (op2 .idx (.dic (fiD φ)) (.str s)) K = K (toD u) := by
  have : op2 .idx (.dic (fiD φ)) (.str s) = some (.sh, toD u) := by
    show (if strK (fiD φ) then (dget (fiD φ) (.str s)).map (fun d => ((Md.sh, d) : Val)) else none) = _
    rw [strK_fi, dget_fi, h]; rfl
  rw [this]; rfl
theorem p_ninD {φ : Fi} {s : Str} {K : D → P β} : oP (op2 .nin (.str s) (.dic (fiD φ))) K = K (.bl (!(look φ s).isSome)) := by
  have : op2 .nin (.str s) (.dic (fiD φ)) = some (.sh, .bl (!(look φ s).isSome)) := by
    show (if strK (fiD φ) then some ((Md.sh, D.bl (not (dget (fiD φ) (.str s)).isSome)) : Val) else none) = _
    rw [strK_fi, dget_fi, Option.isSome_map]; rfl
  rw [this]; rfl
theorem p_innD {φ : Fi} {s : Str} {K : D → P β} : oP (op2 .inn (.str s) (.dic (fiD φ))) K = K (.bl (look φ s).isSome) := by
  have : op2 .inn (.str s) (.dic (fiD φ)) = some (.sh, .bl (look φ s).isSome) := by
    show (if strK (fiD φ) then some ((Md.sh, D.bl (id (dget (fiD φ) (.str s)).isSome)) : Val) else none) = _
    rw [strK_fi, dget_fi, Option.isSome_map]; rfl
  rw [this]; rfl
end
theorem fput_new {φ : Fi} {s : Str} {t : Tm} (h : look φ s = none) : fput φ s t = φ ++ [(s, t)] := by
  unfold fput
  have : φ.any (fun p => p.1 = s) = false := by
    rw [List.any_eq_false]
    intro p hp
    have := look_none.mp h
    simp
    exact fun e => this (List.mem_map.mpr ⟨p, hp, e⟩)
  rw [this]; rfl
theorem look_snoc {φ : Fi} {s : Str} {t : Tm} (h : look φ s = none) : look (φ ++ [(s, t)]) s = some t := by
  induction φ with
  | nil => simp [look]
  | cons p φ ih =>
    obtain ⟨k, v⟩ := p
    rw [look] at h
    split at h
    · cases h
    · rename_i hk
      rw [List.cons_append, look, if_neg hk]
      exact ih h
theorem range1 (n : Nat) : rangeD 1 n = (List.range n).map fun i : Nat => .int (1 + (i : Int)) := rangeD_map n 1
section
variable {T : Tab}
theorem c_law_fits (h : Is3 T "_law_fits" X__law_fits) : ∀ (n : Nat) {p t : Tm} {φ : Fi} {m : Nat}, dep p + 1 ≤ n → okT p = true → okT t = true → dep t ≤ 70 → FiOk 70 m φ → m + parts p ≤ 10000 → parts t ≤ 90000 →
    callC T n "_law_fits" [toD p, toD t, .dic (fiD φ)] = .ok (.bl (fitsF p t φ).1, .dic (fiD (fitsF p t φ).2)) := by
  intro n
  induction n with
  | zero => intro p t φ m hd; omega
  | succ n ih =>
    intro p t φ m hd hp ht htd hφ hm htp
    rw [h]
    unfold X__law_fits
    have hlen := hφ.len
    cases p with
    | bl s =>
      rw [toD, p_isS_S, p_B, p_ct, p_ninD, p_B, p_j1, fitsF]
      cases hl : look φ s with
      | some u =>
        have hu := look_mem hl
        rw [p_cn (by rfl)]
        try dsimp only
        rw [p_idxD hl, p_eqT (hφ.v _ hu) ht (Nat.le_trans (hφ.d _ hu) (by omega)) (by omega)]
      | none =>
        rw [p_ci (by rfl), p_setFi (by omega), fput_new hl]
        try dsimp only
        rw [p_idxD (look_snoc hl), p_eqT ht ht (by omega) (by omega)]
        simp
    | nd a ps =>
      rw [toD, p_isS_T, p_B, p_cf]
      cases t with
      | bl s =>
        rw [toD, p_isS_S, p_B, p_j1, p_ct]
        try dsimp only
        rw [p_B, p_ct, fitsF]
      | nd b qs =>
        rw [okT, Bool.and_eq_true] at hp ht
        have hk1 := kids_len (.nd a ps)
        have hk2 := kids_len (.nd b qs)
        simp only [kids, parts] at hk1 hk2 hm htp
        rw [dep] at hd htd
        rw [toD, p_isS_T, p_B, p_j1, p_cf, p_idx0T, p_idx0T, p_ne (p := a = b) rfl rfl (eqOk_str hp.1) (eqOk_str ht.1) (by simp), p_B, p_j1]
        have fin : ¬ (a = b ∧ ps.length = qs.length) → (P.ok (D.bl false, D.dic (fiD φ)) : P (D × D)) = .ok (.bl (fitsF (.nd a ps) (.nd b qs) φ).1, .dic (fiD (fitsF (.nd a ps) (.nd b qs) φ).2)) := fun hn => by rw [fitsF, if_neg hn]
        by_cases ha : a = b
        · rw [p_cn (by simp [ha]), p_lenT, p_lenT, p_neI, List.length_cons, List.length_cons, toDs_map, toDs_map, List.length_map, List.length_map]
          try dsimp only
          rw [p_B]
          by_cases hl : ps.length = qs.length
          · rw [p_cn (by simp [hl]), p_lenT, List.length_cons, List.length_map, p_rng2 (by omega) (by omega) (by omega) (by omega), p_if (by rw [rangeD_len]; exact sz_of (by omega)), range1]
            rw [fitsF, if_pos ⟨ha, hl⟩, show (((qs.length + 1 : Nat) : Int) - 1).toNat = qs.length by omega]
            refine loop1_ret (List.range qs.length) (fun i : Nat => .int (1 + (i : Int))) (fun φ => .dic (fiD φ)) (fun i ψ => fitsL ps qs φ = fitsL (ps.drop i) (qs.drop i) ψ ∧ FiOk 70 (m + partss (ps.take i)) ψ) φ ⟨by simp, by simpa [partss] using hφ⟩ (fun i ψ x hI hx => ?_) (fun ψ hI => ?_)
            · have hi := ix_lt hx
              rw [List.length_range] at hi
              have hx' : x = i := by rw [List.getElem?_range hi] at hx; cases hx; rfl
              subst hx'
              have hi1 : x < ps.length := by omega
              have hi2 : x < qs.length := by omega
              have d1 := List.drop_eq_getElem_cons hi1
              have d2 := List.drop_eq_getElem_cons hi2
              have t1 : ps.take (x + 1) = ps.take x ++ [ps[x]] := by rw [List.take_add_one, List.getElem?_eq_getElem hi1]; rfl
              have pm : ps[x] ∈ ps := List.getElem_mem _
              have qm : qs[x] ∈ qs := List.getElem_mem _
              have e1 := hI.1
              rw [d1, d2, fitsL] at e1
              have pp := congrArg partss (List.take_append_drop x ps)
              rw [d1, partss_app, partss] at pp
              have po := okTs_mem.mp hp.2 _ pm
              have qo := okTs_mem.mp ht.2 _ qm
              have dq := dep_mem qm
              have dp := dep_mem pm
              have pq := parts_mem qm
              have ihc := ih (p := ps[x]) (t := qs[x]) (φ := ψ) (m := m + partss (ps.take x)) (by omega) po qo (by omega) hI.2 (by omega) (by omega)
              have fo := fits_fo ps[x] qs[x] hI.2 po qo (by omega)
              cases hb : (fitsF ps[x] qs[x] ψ).1 with
              | true =>
                refine .inl ⟨(fitsF ps[x] qs[x] ψ).2, ⟨by rw [e1, hb]; rfl, by rw [t1, partss_app, partss, partss, Nat.add_zero, ← Nat.add_assoc]; exact fo⟩, fun k => ?_⟩
                rw [p_idxT (atI_kid (List.getElem?_eq_getElem hi1)), p_idxT (atI_kid (List.getElem?_eq_getElem hi2))]
                refine (bk ihc _).trans ?_
                dsimp only
                rw [hb, p_B]; rfl
              | false =>
                refine .inr fun k => ?_
                rw [p_idxT (atI_kid (List.getElem?_eq_getElem hi1)), p_idxT (atI_kid (List.getElem?_eq_getElem hi2))]
                refine (bk ihc _).trans ?_
                dsimp only
                rw [e1, hb, p_B]; rfl
            · obtain ⟨e1, _⟩ := hI
              rw [e1, List.drop_of_length_le (by rw [List.length_range]; omega), fitsL]
              · intro _ _ _ _ z; cases z
          · rw [p_ci (by simp; omega)]
            exact fin (fun z => hl z.2)
        · rw [p_ci (by simp [ha])]
          try dsimp only
          rw [p_B, p_ct]
          exact fin (fun z => ha z.1)
theorem c_law_blanks_of (h : Is1 T "_law_blanks_of" X__law_blanks_of) : ∀ (n : Nat) {t : Tm}, dep t ≤ n → okT t = true → parts t ≤ 10000 → callC T n "_law_blanks_of" [toD t] = .ok (.lst ((blanksOf t).map D.str), .non) := by
  intro n
  induction n with
  | zero => intro t hd; have := dep_pos t; omega
  | succ n ih =>
    intro t hd ht hp
    rw [h]
    unfold X__law_blanks_of
    cases t with
    | bl s => rfl
    | nd s ps =>
      have hk := kids_len (.nd s ps)
      simp only [kids] at hk
      rw [okT, Bool.and_eq_true] at ht
      rw [toD, p_isS_T, p_B, p_cf, p_slT, cut_tail, p_seqT, toDs_map, p_if (by rw [List.length_map]; exact sz_of (by omega))]
      refine loop1_inv ps toD (fun acc : List Str => .lst (acc.map D.str)) (fun i acc => acc = addAll [] (flatBs (ps.take i))) [] (by simp [flatBs, addAll]) (fun i acc x hacc hx => ?_) (fun acc hacc => ?_)
      · have hxm := ix_mem hx
        have xo := okTs_mem.mp ht.2 x hxm
        have xp := parts_mem hxm
        have xd := dep_mem hxm
        rw [dep] at hd
        rw [parts] at hp
        have t1 : ps.take (i + 1) = ps.take i ++ [x] := by rw [List.take_add_one, hx]; rfl
        have hal : acc.length ≤ partss ps := by
          rw [hacc]
          have := len_addAll [] (flatBs (ps.take i))
          have := flats_len (ps.take i)
          have pp := congrArg partss (List.take_append_drop i ps)
          rw [partss_app] at pp
          simp at *; omega
        have aok : ∀ s ∈ acc, PyData.strOk s = true := fun s hs => by
          rw [hacc, mem_addAll] at hs
          rcases hs with z | z
          · cases z
          · exact flats_ok (ps.take i) (okTs_mem.mpr fun u hu => okTs_mem.mp ht.2 u (List.mem_of_mem_take hu)) s z
        refine ⟨acc ++ (blanksOf x).filter (fun y => !decide (y ∈ acc)), ?_, fun k => ?_⟩
        · rw [t1, flatBs_app, addAll_app, ← hacc]
          show _ = addAll acc (flatB x ++ [])
          rw [List.append_nil]
          exact addAll_filter acc (flatB x)
        · refine (bk (ih (t := x) (by omega) xo (by omega)) _).trans ?_; try dsimp only
          have bl := blanksOf_len x
          rw [p_seqL, p_if (by rw [List.length_map]; exact sz_of (by omega))]
          refine (lc0_if (blanksOf x) D.str (fun y => !decide (y ∈ acc)) D.str fun y hy k => ?_).trans ?_
          · rw [p_ninS aok (flat_ok x xo y (mem_blanksOf.mp hy)), p_B]
            by_cases hb : y ∈ acc
            · simp [hb]
            · simp [hb]
          · rw [p_addL (by
              have := List.length_filter_le (fun y => !decide (y ∈ acc)) (blanksOf x)
              rw [List.length_map, List.length_map]; exact sz_of (by omega)), List.map_append]
      · rw [hacc, List.take_length]; rfl
theorem c_changed (h : Is3 T "_law_changed" X__law_changed) (h1 : Is1 T "_law_places" X__law_places) (h2 : Is3 T "_law_put" X__law_put) {n : Nat} {t u : Tm} (k : Int) (hn : dep t + 2 ≤ n) (hp : parts t ≤ 10000) :
    ∃ p v, sub t p = some v ∧ callC T n "_law_changed" [toD t, .int k, toD u] = .ok (toD (put t p u), .non) := by
  obtain ⟨m, rfl⟩ : ∃ m, n = m + 1 := ⟨n - 1, by omega⟩
  have pl0 : 0 < (places t).length := by rw [places_len]; exact parts_pos t
  have b0 := Int.emod_nonneg k (b := ((places t).length : Int)) (by omega)
  have b1 := Int.emod_lt_of_pos k (b := ((places t).length : Int)) (by omega)
  have hq : (places t).getD (k % (places t).length).toNat [] ∈ places t := by
    rw [List.getD_eq_getElem?_getD, List.getElem?_eq_getElem (show (k % (places t).length).toNat < (places t).length by omega)]
    exact List.getElem_mem _
  obtain ⟨v, hv⟩ := (places_sub t _).mp hq
  refine ⟨_, v, hv, ?_⟩
  rw [h]
  unfold X__law_changed
  refine (bk (c_law_places h1 m t (by omega) hp) _).trans ?_; try dsimp only
  rw [p_lenL, List.length_map, p_mod (by omega), p_idxL (atI_map (d := []) b0 b1)]
  have := sub_dep hv
  have := dep_pos v
  refine (bk (c_law_put h2 m (u := u) (by omega) hv (by omega)) _).trans ?_
  rfl
mutual
theorem fill_parts {φ : Fi} {m : Nat} (hm : 1 ≤ m) (h : ∀ p ∈ φ, parts p.2 ≤ m) : ∀ t, parts (fillT φ t) ≤ parts t * m
  | .bl s => by
    rw [fillT]
    cases hl : look φ s with
    | none => simp [parts]; omega
    | some u => have : parts u ≤ m := h _ (look_mem hl); simp [parts]; omega
  | .nd s ps => by
    rw [fillT, parts, parts]
    have := fills_parts hm h ps
    rw [Nat.add_mul]; omega
theorem fills_parts {φ : Fi} {m : Nat} (hm : 1 ≤ m) (h : ∀ p ∈ φ, parts p.2 ≤ m) : ∀ ts, partss (fillTs φ ts) ≤ partss ts * m
  | [] => by simp [fillTs, partss]
  | t :: ts => by
    rw [fillTs, partss, partss]
    have := fill_parts hm h t
    have := fills_parts hm h ts
    rw [Nat.add_mul]; omega
end
end
end Pu
end

section
set_option Elab.async false
set_option linter.all false
set_option maxRecDepth 100000
set_option maxHeartbeats 1000000
namespace Pu
open En PySem Sh

/-! ### filling twice -/
mutual
theorem fill_congr {φ ψ : Fi} : ∀ t, (∀ s ∈ flatB t, fillT φ (.bl s) = fillT ψ (.bl s)) → fillT φ t = fillT ψ t
  | .bl s, h => h s (by simp [flatB])
  | .nd s ps, h => by rw [fillT, fillT, fills_congr ps h]
theorem fills_congr {φ ψ : Fi} : ∀ ts, (∀ s ∈ flatBs ts, fillT φ (.bl s) = fillT ψ (.bl s)) → fillTs φ ts = fillTs ψ ts
  | [], _ => rfl
  | t :: ts, h => by
    rw [fillTs, fillTs, fill_congr t fun s hs => h s (by rw [flatBs]; exact List.mem_append_left _ hs), fills_congr ts fun s hs => h s (by rw [flatBs]; exact List.mem_append_right _ hs)]
end
mutual
/-- filled by one and then by another -/
theorem fill_comp {θ φ χ : Fi} : ∀ t, (∀ s ∈ flatB t, fillT θ (fillT φ (.bl s)) = fillT χ (.bl s)) → fillT θ (fillT φ t) = fillT χ t
  | .bl s, h => h s (by simp [flatB])
  | .nd s ps, h => by rw [fillT, fillT, fillT, fills_comp ps h]
theorem fills_comp {θ φ χ : Fi} : ∀ ts, (∀ s ∈ flatBs ts, fillT θ (fillT φ (.bl s)) = fillT χ (.bl s)) → fillTs θ (fillTs φ ts) = fillTs χ ts
  | [], _ => rfl
  | t :: ts, h => by
    rw [fillTs, fillTs, fillTs, fill_comp t fun s hs => h s (by rw [flatBs]; exact List.mem_append_left _ hs), fills_comp ts fun s hs => h s (by rw [flatBs]; exact List.mem_append_right _ hs)]
end
mutual
theorem fill_id {φ : Fi} : ∀ t, (∀ s ∈ flatB t, look φ s = none) → fillT φ t = t
  | .bl s, h => by rw [fillT, h s (by simp [flatB])]; rfl
  | .nd s ps, h => by rw [fillT, fills_id ps h]
theorem fills_id {φ : Fi} : ∀ ts, (∀ s ∈ flatBs ts, look φ s = none) → fillTs φ ts = ts
  | [], _ => rfl
  | t :: ts, h => by
    rw [fillTs, fill_id t fun s hs => h s (by rw [flatBs]; exact List.mem_append_left _ hs), fills_id ts fun s hs => h s (by rw [flatBs]; exact List.mem_append_right _ hs)]
end
mutual
theorem flat_fill {φ : Fi} : ∀ t x, x ∈ flatB (fillT φ t) ↔ ∃ s ∈ flatB t, x ∈ flatB (fillT φ (.bl s))
  | .bl s, x => by simp [flatB]
  | .nd s ps, x => by rw [fillT, flatB, flatB]; exact flats_fill ps x
theorem flats_fill {φ : Fi} : ∀ ts x, x ∈ flatBs (fillTs φ ts) ↔ ∃ s ∈ flatBs ts, x ∈ flatB (fillT φ (.bl s))
  | [], x => by simp [fillTs, flatBs]
  | t :: ts, x => by
    rw [fillTs, flatBs, flatBs, List.mem_append, flat_fill t x, flats_fill ts x]
    constructor
    · rintro (⟨s, a, b⟩ | ⟨s, a, b⟩)
      · exact ⟨s, List.mem_append_left _ a, b⟩
      · exact ⟨s, List.mem_append_right _ a, b⟩
    · rintro ⟨s, a, b⟩
      rcases List.mem_append.mp a with a | a
      · exact .inl ⟨s, a, b⟩
      · exact .inr ⟨s, a, b⟩
end
/-! ### signs with parts -/
mutual
def nds : Tm → List Tm
  | .bl _ => []
  | .nd s ps => .nd s ps :: ndss ps
def ndss : List Tm → List Tm
  | [] => []
  | t :: ts => nds t ++ ndss ts
end
mutual
theorem nds_len : ∀ t, (nds t).length ≤ parts t
  | .bl _ => by simp [nds]
  | .nd s ps => by rw [nds, parts, List.length_cons]; have := ndss_len ps; omega
theorem ndss_len : ∀ ts, (ndss ts).length ≤ partss ts
  | [] => by simp [ndss]
  | t :: ts => by rw [ndss, partss, List.length_append]; have := nds_len t; have := ndss_len ts; omega
end
mutual
theorem nds_parts : ∀ t u, u ∈ nds t → parts u ≤ parts t
  | .bl _, u, h => by cases h
  | .nd s ps, u, h => by
    rw [nds] at h
    rcases List.mem_cons.mp h with e | e
    · rw [e]; exact Nat.le_refl _
    · have := ndss_parts ps u e; rw [parts]; omega
theorem ndss_parts : ∀ ts u, u ∈ ndss ts → parts u ≤ partss ts
  | [], u, h => by cases h
  | t :: ts, u, h => by
    rw [ndss] at h
    rw [partss]
    rcases List.mem_append.mp h with e | e
    · have := nds_parts t u e; omega
    · have := ndss_parts ts u e; omega
end
theorem ndss_mem : ∀ {ts : List Tm} {t u : Tm}, t ∈ ts → u ∈ nds t → u ∈ ndss ts
  | v :: ts, t, u, ht, hu => by
    rw [ndss]
    rcases List.mem_cons.mp ht with e | e
    · exact List.mem_append_left _ (e ▸ hu)
    · exact List.mem_append_right _ (ndss_mem e hu)
mutual
theorem nds_fill {φ : Fi} : ∀ t u, u ∈ nds (fillT φ t) → (∃ w ∈ nds t, u = fillT φ w) ∨ ∃ s ∈ flatB t, u ∈ nds (fillT φ (.bl s))
  | .bl s, u, h => .inr ⟨s, by simp [flatB], h⟩
  | .nd s ps, u, h => by
    rw [fillT, nds] at h
    rcases List.mem_cons.mp h with e | e
    · exact .inl ⟨.nd s ps, by rw [nds]; exact .head _, by rw [e, fillT]⟩
    · rcases ndss_fill ps u e with ⟨w, hw, e⟩ | r
      · exact .inl ⟨w, by rw [nds]; exact .tail _ hw, e⟩
      · exact .inr r
theorem ndss_fill {φ : Fi} : ∀ ts u, u ∈ ndss (fillTs φ ts) → (∃ w ∈ ndss ts, u = fillT φ w) ∨ ∃ s ∈ flatBs ts, u ∈ nds (fillT φ (.bl s))
  | [], u, h => by cases h
  | t :: ts, u, h => by
    rw [fillTs, ndss] at h
    rcases List.mem_append.mp h with e | e
    · rcases nds_fill t u e with ⟨w, hw, e⟩ | ⟨s, hs, e⟩
      · exact .inl ⟨w, by rw [ndss]; exact List.mem_append_left _ hw, e⟩
      · exact .inr ⟨s, by rw [flatBs]; exact List.mem_append_left _ hs, e⟩
    · rcases ndss_fill ts u e with ⟨w, hw, e⟩ | ⟨s, hs, e⟩
      · exact .inl ⟨w, by rw [ndss]; exact List.mem_append_right _ hw, e⟩
      · exact .inr ⟨s, by rw [flatBs]; exact List.mem_append_right _ hs, e⟩
end
/-- the deepest way down -/
theorem dep_deep : ∀ (n : Nat) (t : Tm), dep t = n → ∃ l : List Tm, l.length + 1 = n ∧ l.Nodup ∧ (∀ u ∈ l, u ∈ nds t) ∨ ∃ l : List Tm, l.length = n ∧ l.Nodup ∧ ∀ u ∈ l, u ∈ nds t := by
  intro n
  induction n with
  | zero => intro t h; have := dep_pos t; omega
  | succ n ih =>
    intro t h
    cases t with
    | bl s => rw [dep] at h; exact ⟨[], .inl ⟨by simp; omega, List.nodup_nil, fun _ z => nomatch z⟩⟩
    | nd s ps =>
      rw [dep] at h
      cases hps : ps with
      | nil =>
        rw [hps] at h
        simp [deps] at h
        exact ⟨[], .inl ⟨by simp; omega, List.nodup_nil, fun _ z => nomatch z⟩⟩
      | cons p0 pr =>
        have : ∃ u ∈ ps, dep u = n := by
          have hd : deps ps = n := by omega
          have hne : ps ≠ [] := by rw [hps]; simp
          have key : ∀ ts : List Tm, ts ≠ [] → ∃ u ∈ ts, dep u = deps ts := by
            intro ts
            induction ts with
            | nil => intro z; exact absurd rfl z
            | cons t ts iht =>
              intro _
              rw [deps]
              by_cases hts : ts = []
              · rw [hts]; exact ⟨t, by simp, by simp [deps]⟩
              · obtain ⟨u, hu, e⟩ := iht hts
                rcases Nat.le_total (dep t) (deps ts) with z | z
                · exact ⟨u, .tail _ hu, by omega⟩
                · exact ⟨t, .head _, by omega⟩
          obtain ⟨u, hu, e⟩ := key ps hne
          exact ⟨u, hu, by omega⟩
        obtain ⟨u, hu, e⟩ := this
        rw [← hps]
        obtain ⟨l, r⟩ := ih u e
        have ext : ∀ l : List Tm, l.Nodup → (∀ w ∈ l, w ∈ nds u) → ((Tm.nd s ps) :: l).Nodup ∧ ∀ w ∈ (Tm.nd s ps) :: l, w ∈ nds (.nd s ps) := fun l hn hl => by
          refine ⟨List.nodup_cons.mpr ⟨fun z => ?_, hn⟩, fun w hw => ?_⟩
          · have h1 := nds_parts u _ (hl _ z)
            have h2 := parts_mem hu
            rw [parts] at h1; omega
          · rcases List.mem_cons.mp hw with e | e
            · rw [e, nds]; exact .head _
            · rw [nds]; exact .tail _ (ndss_mem hu (hl w e))
        rcases r with ⟨a, b, c⟩ | ⟨l, a, b, c⟩
        · obtain ⟨x, y⟩ := ext l b c
          exact ⟨_, .inl ⟨by simp; omega, x, y⟩⟩
        · obtain ⟨x, y⟩ := ext l b c
          exact ⟨[], .inr ⟨_, by simp; omega, x, y⟩⟩
theorem dep_le_of {t : Tm} {V : List Tm} (h : ∀ u ∈ nds t, u ∈ V) : dep t ≤ V.length + 1 := by
  obtain ⟨l, ⟨a, b, c⟩ | ⟨l, a, b, c⟩⟩ := dep_deep (dep t) t rfl
  · have := nodup_le l V b fun u hu => h u (c u hu); omega
  · have := nodup_le l V b fun u hu => h u (c u hu); omega
/-! ### at most so many parts side by side -/
mutual
def arT (k : Nat) : Tm → Bool
  | .bl _ => true
  | .nd _ ps => decide (ps.length ≤ k) && arTs k ps
def arTs (k : Nat) : List Tm → Bool
  | [] => true
  | t :: ts => arT k t && arTs k ts
end
theorem arTs_mem {k : Nat} : ∀ {ts : List Tm}, arTs k ts = true ↔ ∀ t ∈ ts, arT k t = true
  | [] => by simp [arTs]
  | t :: ts => by rw [arTs, Bool.and_eq_true, arTs_mem (ts := ts)]; simp
mutual
theorem ar_fill {k : Nat} {φ : Fi} (h : ∀ p ∈ φ, arT k p.2 = true) : ∀ t, arT k t = true → arT k (fillT φ t) = true
  | .bl s, ht => by
    rw [fillT]
    cases hl : look φ s with
    | none => rfl
    | some u => exact h _ (look_mem hl)
  | .nd s ps, ht => by
    rw [arT, Bool.and_eq_true] at ht
    rw [fillT, arT, Bool.and_eq_true, fillTs_map, List.length_map]
    exact ⟨ht.1, by rw [← fillTs_map]; exact ars_fill h ps ht.2⟩
theorem ars_fill {k : Nat} {φ : Fi} (h : ∀ p ∈ φ, arT k p.2 = true) : ∀ ts, arTs k ts = true → arTs k (fillTs φ ts) = true
  | [], _ => rfl
  | t :: ts, ht => by
    rw [arTs, Bool.and_eq_true] at ht
    rw [fillTs, arTs, ar_fill h t ht.1, ars_fill h ts ht.2]; rfl
end
mutual
theorem parts_ar : ∀ t, arT 3 t = true → parts t < 3 ^ dep t
  | .bl _, _ => by simp [parts, dep]
  | .nd s ps, h => by
    rw [arT, Bool.and_eq_true, decide_eq_true_iff] at h
    rw [parts, dep, Nat.pow_add]
    have := partss_ar ps h.2 (deps ps) (Nat.le_refl _)
    have hp : 0 < 3 ^ deps ps := Nat.pow_pos (by omega)
    have : ps.length * (3 ^ deps ps - 1) ≤ 3 * (3 ^ deps ps - 1) := Nat.mul_le_mul_right _ h.1
    omega
theorem partss_ar : ∀ ts, arTs 3 ts = true → ∀ d, deps ts ≤ d → partss ts ≤ ts.length * (3 ^ d - 1)
  | [], _, d, _ => by simp [partss]
  | t :: ts, h, d, hd => by
    rw [arTs, Bool.and_eq_true] at h
    rw [deps] at hd
    have h1 := parts_ar t h.1
    have h2 := partss_ar ts h.2 d (by omega)
    have h3 : 3 ^ dep t ≤ 3 ^ d := Nat.pow_le_pow_right (by omega) (by omega)
    rw [partss, List.length_cons, Nat.add_mul]
    omega
end
theorem occ_parts : ∀ {θ : Fi} {b : Str} (g : Tm), b ∈ flatB g → g ≠ .bl b → parts (fillT θ (.bl b)) < parts (fillT θ g) := by
  have hs : ∀ {θ : Fi} {b : Str} (n : Nat) (ts : List Tm), partss ts ≤ n → b ∈ flatBs ts → parts (fillT θ (.bl b)) ≤ partss (fillTs θ ts) := by
    intro θ b n
    induction n with
    | zero =>
      intro ts h hb
      cases ts with
      | nil => cases hb
      | cons t ts => rw [partss] at h; have := parts_pos t; omega
    | succ n ih =>
      intro ts h hb
      cases ts with
      | nil => cases hb
      | cons t ts =>
        rw [partss] at h
        rw [fillTs, partss]
        rw [flatBs] at hb
        rcases List.mem_append.mp hb with e | e
        · cases t with
          | bl s => rw [flatB] at e; rw [List.mem_singleton.mp e]; omega
          | nd s ps =>
            have := ih ps (by rw [parts] at h; omega) e
            have e2 : parts (fillT θ (.nd s ps)) = 1 + partss (fillTs θ ps) := by rw [fillT, parts]
            omega
        · have := ih ts (by have := parts_pos t; omega) e; omega
  intro θ b g hb hg
  cases g with
  | bl s => rw [flatB] at hb; exact absurd (by rw [List.mem_singleton.mp hb]) hg
  | nd s ps =>
    have := hs (θ := θ) (partss ps) ps (Nat.le_refl _) hb
    have e2 : parts (fillT θ (.nd s ps)) = 1 + partss (fillTs θ ps) := by rw [fillT, parts]
    omega
end Pu
end

section
set_option Elab.async false
set_option linter.all false
set_option maxRecDepth 100000
set_option maxHeartbeats 1000000
namespace Pu
open En PySem Sh

/-! ### parts at places -/
theorem sub_fill {ψ : Fi} : ∀ {p : Pl} {t u : Tm}, sub t p = some u → sub (fillT ψ t) p = some (fillT ψ u)
  | [], t, u, h => by rw [sub_nil] at h; cases h; exact sub_nil _
  | k :: p, .bl _, u, h => by cases h
  | k :: p, .nd s ps, u, h => by
    rw [sub] at h
    rw [fillT, sub, fillTs_map, List.getElem?_map]
    cases hv : ps[k]? with
    | none => rw [hv] at h; cases h
    | some v => rw [hv] at h; exact sub_fill h
theorem flats_mem : ∀ {ts : List Tm} {t : Tm} {s : Str}, t ∈ ts → s ∈ flatB t → s ∈ flatBs ts
  | v :: ts, t, s, ht, hs => by
    rw [flatBs]
    rcases List.mem_cons.mp ht with e | e
    · exact List.mem_append_left _ (e ▸ hs)
    · exact List.mem_append_right _ (flats_mem e hs)
theorem sub_flat : ∀ {p : Pl} {t u : Tm} {s : Str}, sub t p = some u → s ∈ flatB u → s ∈ flatB t
  | [], t, u, s, h, hs => by rw [sub_nil] at h; cases h; exact hs
  | k :: p, .bl _, u, s, h, _ => by cases h
  | k :: p, .nd a ps, u, s, h, hs => by
    rw [sub] at h
    cases hv : ps[k]? with
    | none => rw [hv] at h; cases h
    | some v => rw [hv] at h; rw [flatB]; exact flats_mem (List.mem_of_getElem? hv) (sub_flat h hs)
theorem sub_nds : ∀ {p : Pl} {t u w : Tm}, sub t p = some u → w ∈ nds u → w ∈ nds t
  | [], t, u, w, h, hs => by rw [sub_nil] at h; cases h; exact hs
  | k :: p, .bl _, u, w, h, _ => by cases h
  | k :: p, .nd a ps, u, w, h, hs => by
    rw [sub] at h
    cases hv : ps[k]? with
    | none => rw [hv] at h; cases h
    | some v => rw [hv] at h; rw [nds]; exact .tail _ (ndss_mem (List.mem_of_getElem? hv) (sub_nds h hs))
theorem sub_ar {m : Nat} : ∀ {p : Pl} {t u : Tm}, sub t p = some u → arT m t = true → arT m u = true
  | [], t, u, h, hs => by rw [sub_nil] at h; cases h; exact hs
  | k :: p, .bl _, u, h, _ => by cases h
  | k :: p, .nd a ps, u, h, hs => by
    rw [sub] at h
    rw [arT, Bool.and_eq_true] at hs
    cases hv : ps[k]? with
    | none => rw [hv] at h; cases h
    | some v => rw [hv] at h; exact sub_ar h (arTs_mem.mp hs.2 v (List.mem_of_getElem? hv))
mutual
theorem nds_flat : ∀ (t : Tm) {u : Tm} {s : Str}, u ∈ nds t → s ∈ flatB u → s ∈ flatB t
  | .bl _, u, s, h, _ => by cases h
  | .nd a ps, u, s, h, hs => by
    rw [nds] at h
    rcases List.mem_cons.mp h with e | e
    · rw [← e]; exact hs
    · rw [flatB]; exact ndss_flat ps e hs
theorem ndss_flat : ∀ (ts : List Tm) {u : Tm} {s : Str}, u ∈ ndss ts → s ∈ flatB u → s ∈ flatBs ts
  | [], u, s, h, _ => by cases h
  | t :: ts, u, s, h, hs => by
    rw [ndss] at h
    rw [flatBs]
    rcases List.mem_append.mp h with e | e
    · exact List.mem_append_left _ (nds_flat t e hs)
    · exact List.mem_append_right _ (ndss_flat ts e hs)
end

/-! ### two terms made alike -/
abbrev Prs := List (Tm × Tm)
def orig (one other : Tm) : List Tm := nds one ++ nds other
def blks (one other : Tm) : List Str := flatB one ++ flatB other
def most (one other : Tm) : Nat := (orig one other).length + 1
def bind2 (φ : Fi) (b : Str) (g : Tm) : Fi := φ.map (fun p => (p.1, fillT [(b, g)] p.2)) ++ [(b, g)]
def Plc (one other : Tm) (φ : Fi) (j : Nat) (x y : Tm) : Prop := ∃ p : Pl, j / 3 ≤ p.length ∧ ((sub (fillT φ one) p = some (fillT φ x) ∧ sub (fillT φ other) p = some (fillT φ y)) ∨ (sub (fillT φ other) p = some (fillT φ x) ∧ sub (fillT φ one) p = some (fillT φ y)))
structure Inv (one other : Tm) (φ : Fi) (left : Prs) : Prop where
  nd : (fkeys φ).Nodup
  kb : ∀ p ∈ φ, p.1 ∈ blks one other
  ko : ∀ p ∈ φ, PyData.strOk p.1 = true
  vb : ∀ p ∈ φ, ∀ s ∈ flatB p.2, s ∈ blks one other ∧ look φ s = none
  vo : ∀ p ∈ φ, okT p.2 = true
  va : ∀ p ∈ φ, arT 3 p.2 = true
  vn : ∀ p ∈ φ, ∀ u ∈ nds p.2, u ∈ (orig one other).map (fillT φ)
  st : ∀ j x y, left[j]? = some (x, y) → Plc one other φ j x y
  so : ∀ q ∈ left, (okT q.1 = true ∧ okT q.2 = true) ∧ (arT 3 q.1 = true ∧ arT 3 q.2 = true) ∧ dep q.1 ≤ most one other ∧ dep q.2 ≤ most one other
  D : ∀ θ, fillT θ one = fillT θ other → (∀ t, fillT θ (fillT φ t) = fillT θ t) ∧ ∀ q ∈ left, fillT θ q.1 = fillT θ q.2
  E : ∀ θ, (∀ q ∈ left, fillT θ q.1 = fillT θ q.2) → (∀ t, fillT θ (fillT φ t) = fillT θ t) → fillT θ one = fillT θ other
section
variable {one other : Tm} {φ : Fi} {left : Prs}
theorem Inv.len (h : Inv one other φ left) : φ.length ≤ (blks one other).length := by
  have := nodup_le (fkeys φ) (blks one other) h.nd fun k hk => by
    obtain ⟨p, hp, rfl⟩ := List.mem_map.mp hk
    exact h.kb p hp
  unfold fkeys at this
  rw [List.length_map] at this; exact this
/-- what a filled term's blanks are -/
theorem Inv.blk (h : Inv one other φ left) {t : Tm} (ht : ∀ s ∈ flatB t, s ∈ blks one other) : ∀ s ∈ flatB (fillT φ t), s ∈ blks one other ∧ look φ s = none := fun s hs => by
  obtain ⟨r, hr, hs⟩ := (flat_fill t s).mp hs
  rw [fillT] at hs
  cases hl : look φ r with
  | none => rw [hl] at hs; simp [flatB] at hs; rw [hs]; exact ⟨ht r hr, hl⟩
  | some u => rw [hl] at hs; exact h.vb _ (look_mem hl) s hs
theorem Inv.nsub (h : Inv one other φ left) {t : Tm} (ht : ∀ u ∈ nds t, u ∈ orig one other) : ∀ u ∈ nds (fillT φ t), u ∈ (orig one other).map (fillT φ) := fun u hu => by
  rcases nds_fill t u hu with ⟨w, hw, e⟩ | ⟨s, hs, hu⟩
  · rw [e]; exact List.mem_map.mpr ⟨w, ht w hw, rfl⟩
  · rw [fillT] at hu
    cases hl : look φ s with
    | none => rw [hl] at hu; cases hu
    | some v => rw [hl] at hu; exact h.vn _ (look_mem hl) u hu
theorem orig1 : ∀ u ∈ nds one, u ∈ orig one other := fun u hu => List.mem_append_left _ hu
theorem orig2 : ∀ u ∈ nds other, u ∈ orig one other := fun u hu => List.mem_append_right _ hu
theorem blk1 : ∀ s ∈ flatB one, s ∈ blks one other := fun u hu => List.mem_append_left _ hu
theorem blk2 : ∀ s ∈ flatB other, s ∈ blks one other := fun u hu => List.mem_append_right _ hu
theorem Inv.dep1 (h : Inv one other φ left) {t : Tm} (ht : ∀ u ∈ nds t, u ∈ orig one other) : dep (fillT φ t) ≤ most one other := by
  have := dep_le_of (h.nsub ht)
  rw [List.length_map] at this; exact this
structure Its (one other : Tm) (φ : Fi) (u : Tm) : Prop where
  b : ∀ s ∈ flatB u, s ∈ blks one other ∧ look φ s = none
  n : ∀ w ∈ nds u, w ∈ (orig one other).map (fillT φ)
  o : okT u = true
  a : arT 3 u = true
theorem Its.d {u : Tm} (h : Its one other φ u) : dep u ≤ most one other := by
  have := dep_le_of h.n
  rw [List.length_map] at this; exact this
theorem Inv.its (h : Inv one other φ left) (o1 : okT one = true) (o2 : okT other = true) (a1 : arT 3 one = true) (a2 : arT 3 other = true) {j : Nat} {x y : Tm} (hp : Plc one other φ j x y) : Its one other φ (fillT φ x) ∧ Its one other φ (fillT φ y) := by
  have go : ∀ {t u : Tm} {p : Pl}, (t = one ∨ t = other) → sub (fillT φ t) p = some u → Its one other φ u := fun {t u p} ht hs => by
    rcases ht with rfl | rfl
    · exact ⟨fun s hz => h.blk blk1 s (sub_flat hs hz), fun w hw => h.nsub orig1 w (sub_nds hs hw), sub_ok hs (fill_ok h.vo _ o1), sub_ar hs (ar_fill h.va _ a1)⟩
    · exact ⟨fun s hz => h.blk blk2 s (sub_flat hs hz), fun w hw => h.nsub orig2 w (sub_nds hs hw), sub_ok hs (fill_ok h.vo _ o2), sub_ar hs (ar_fill h.va _ a2)⟩
  obtain ⟨p, _, ⟨h1, h2⟩ | ⟨h1, h2⟩⟩ := hp
  · exact ⟨go (.inl rfl) h1, go (.inr rfl) h2⟩
  · exact ⟨go (.inr rfl) h1, go (.inl rfl) h2⟩
theorem Inv.llen (h : Inv one other φ left) : left.length ≤ 3 * most one other + 3 := by
  rcases Nat.eq_zero_or_pos left.length with e | e
  · omega
  · have hi : left.length - 1 < left.length := by omega
    obtain ⟨p, hp, h1⟩ := h.st (left.length - 1) left[left.length - 1].1 left[left.length - 1].2 (List.getElem?_eq_getElem hi)
    have : p.length ≤ most one other := by
      rcases h1 with ⟨h1, _⟩ | ⟨h1, _⟩
      · have := sub_dep h1; have := h.dep1 orig1; omega
      · have := sub_dep h1; have := h.dep1 orig2; omega
    omega
/-- filled again it stays -/
theorem Its.same {u : Tm} (h : Its one other φ u) : fillT φ u = u := fill_id u fun s hs => (h.b s hs).2
theorem look_bind {b : Str} {g : Tm} (hb : look φ b = none) (s : Str) : look (bind2 φ b g) s = if s = b then some g else (look φ s).map (fillT [(b, g)]) := by
  unfold bind2
  induction φ with
  | nil =>
    simp [look]
    by_cases e : b = s
    · simp [e]
    · simp [e, Ne.symm e]
  | cons p φ ih =>
    obtain ⟨k, v⟩ := p
    rw [look] at hb
    split at hb
    · cases hb
    · rename_i hk
      simp only [List.map_cons, List.cons_append, look]
      by_cases e : k = s
      · subst e
        rw [if_pos rfl, if_neg hk, if_pos rfl]; rfl
      · rw [if_neg e, ih hb, if_neg e]
theorem fill_bind {b : Str} {g : Tm} (hb : look φ b = none) (t : Tm) : fillT (bind2 φ b g) t = fillT [(b, g)] (fillT φ t) := by
  refine (fill_comp t fun s _ => ?_).symm
  rw [fillT, fillT, look_bind hb]
  by_cases e : s = b
  · subst e
    rw [if_pos rfl, hb]
    simp [fillT, look]
  · rw [if_neg e]
    cases hl : look φ s with
    | none => simp [fillT, look, Ne.symm e]
    | some u => rfl
theorem Inv.popd (h : Inv one other φ left) {x y : Tm} {l : Prs} (hl : left = l ++ [(x, y)]) (he : fillT φ x = fillT φ y) : Inv one other φ l where
  nd := h.nd
  kb := h.kb
  ko := h.ko
  vb := h.vb
  vo := h.vo
  va := h.va
  vn := h.vn
  st := fun j a b e => h.st j a b (by rw [hl, List.getElem?_append_left (ix_lt e)]; exact e)
  so := fun q hq => h.so q (by rw [hl]; exact List.mem_append_left _ hq)
  D := fun θ hθ => ⟨(h.D θ hθ).1, fun q hq => (h.D θ hθ).2 q (by rw [hl]; exact List.mem_append_left _ hq)⟩
  E := fun θ h1 h2 => h.E θ (fun q hq => by
    rw [hl] at hq
    rcases List.mem_append.mp hq with e | e
    · exact h1 q e
    · rw [List.mem_singleton.mp e]
      show fillT θ x = fillT θ y
      rw [← h2 x, ← h2 y, he]) h2
theorem Inv.bound (h : Inv one other φ left) (o1 : okT one = true) (o2 : okT other = true) (a1 : arT 3 one = true) (a2 : arT 3 other = true) {x y : Tm} {l : Prs} {b : Str} {g : Tm} (hl : left = l ++ [(x, y)]) (hb : (fillT φ x = .bl b ∧ fillT φ y = g) ∨ (fillT φ y = .bl b ∧ fillT φ x = g)) (hn : b ∉ flatB g) : Inv one other (bind2 φ b g) l := by
  have hx : left[l.length]? = some (x, y) := by rw [hl]; simp
  obtain ⟨ix, iy⟩ := h.its o1 o2 a1 a2 (h.st _ x y hx)
  have ib : Its one other φ (.bl b) := by rcases hb with ⟨e, _⟩ | ⟨e, _⟩ <;> rw [← e] <;> assumption
  have ig : Its one other φ g := by rcases hb with ⟨_, e⟩ | ⟨_, e⟩ <;> rw [← e] <;> assumption
  obtain ⟨bB, bk⟩ := ib.b b (by simp [flatB])
  have bs : PyData.strOk b = true := ib.o
  have fb := fill_bind (g := g) bk
  have flook : ∀ s, look [(b, g)] s = if s = b then some g else none := fun s => by
    by_cases e : s = b
    · simp [look, e]
    · simp [look, e, Ne.symm e]
  have gsame : ∀ u, (∀ s ∈ flatB u, s ≠ b) → fillT [(b, g)] u = u := fun u hu => fill_id u fun s hs => by rw [flook, if_neg (hu s hs)]
  have gn : ∀ s ∈ flatB g, s ≠ b := fun s hs e => hn (e ▸ hs)
  have mem2 : ∀ p ∈ bind2 φ b g, (∃ q ∈ φ, p = (q.1, fillT [(b, g)] q.2)) ∨ p = (b, g) := fun p hp => by
    rcases List.mem_append.mp hp with e | e
    · obtain ⟨q, hq, e⟩ := List.mem_map.mp e
      exact .inl ⟨q, hq, e.symm⟩
    · exact .inr (List.mem_singleton.mp e)
  have lk2 : ∀ s, s ≠ b → look φ s = none → look (bind2 φ b g) s = none := fun s h1 h2 => by rw [look_bind bk, if_neg h1, h2]; rfl
  have ng : ∀ u ∈ nds g, u ∈ (orig one other).map (fillT (bind2 φ b g)) := fun u hu => by
    obtain ⟨o, ho, e⟩ := List.mem_map.mp (ig.n u hu)
    refine List.mem_map.mpr ⟨o, ho, ?_⟩
    rw [fb, e]
    exact gsame u fun s hs => gn s (nds_flat g hu hs)
  refine ⟨?_, ?_, ?_, ?_, ?_, ?_, ?_, ?_, ?_, ?_, ?_⟩
  · unfold fkeys bind2
    rw [List.map_append, List.map_map, List.nodup_append]
    refine ⟨h.nd, by simp, fun a ha c hc e => ?_⟩
    simp at hc
    have := look_none.mp bk
    exact this (by rw [← hc, ← e]; exact ha)
  · intro p hp
    rcases mem2 p hp with ⟨q, hq, rfl⟩ | rfl
    · exact h.kb q hq
    · exact bB
  · intro p hp
    rcases mem2 p hp with ⟨q, hq, rfl⟩ | rfl
    · exact h.ko q hq
    · exact bs
  · intro p hp s hs
    have hg : s ∈ flatB g → s ∈ blks one other ∧ look (bind2 φ b g) s = none := fun hs => ⟨(ig.b s hs).1, lk2 s (gn s hs) (ig.b s hs).2⟩
    rcases mem2 p hp with ⟨q, hq, rfl⟩ | rfl
    · obtain ⟨r, hr, hs⟩ := (flat_fill q.2 s).mp hs
      rw [fillT, flook] at hs
      by_cases e : r = b
      · rw [if_pos e] at hs; exact hg hs
      · rw [if_neg e] at hs
        simp [flatB] at hs
        rw [hs]
        exact ⟨(h.vb q hq r hr).1, lk2 r e (h.vb q hq r hr).2⟩
    · exact hg hs
  · intro p hp
    rcases mem2 p hp with ⟨q, hq, rfl⟩ | rfl
    · exact fill_ok (fun z hz => by rw [List.mem_singleton.mp hz]; exact ig.o) _ (h.vo q hq)
    · exact ig.o
  · intro p hp
    rcases mem2 p hp with ⟨q, hq, rfl⟩ | rfl
    · exact ar_fill (fun z hz => by rw [List.mem_singleton.mp hz]; exact ig.a) _ (h.va q hq)
    · exact ig.a
  · intro p hp u hu
    rcases mem2 p hp with ⟨q, hq, rfl⟩ | rfl
    · rcases nds_fill q.2 u hu with ⟨w, hw, e⟩ | ⟨s, hs, hu⟩
      · obtain ⟨o, ho, e2⟩ := List.mem_map.mp (h.vn q hq w hw)
        exact List.mem_map.mpr ⟨o, ho, by rw [fb, e2, e]⟩
      · rw [fillT, flook] at hu
        by_cases e : s = b
        · rw [if_pos e] at hu; exact ng u hu
        · rw [if_neg e] at hu; cases hu
    · exact ng u hu
  · intro j u v e
    obtain ⟨p, hp, r⟩ := h.st j u v (by rw [hl, List.getElem?_append_left (ix_lt e)]; exact e)
    refine ⟨p, hp, ?_⟩
    rw [fb, fb, fb, fb]
    rcases r with ⟨r1, r2⟩ | ⟨r1, r2⟩
    · exact .inl ⟨sub_fill r1, sub_fill r2⟩
    · exact .inr ⟨sub_fill r1, sub_fill r2⟩
  · exact fun q hq => h.so q (by rw [hl]; exact List.mem_append_left _ hq)
  · intro θ hθ
    obtain ⟨d1, d2⟩ := h.D θ hθ
    have e0 : fillT θ x = fillT θ y := d2 (x, y) (by rw [hl]; simp)
    have e1 : fillT θ (.bl b) = fillT θ g := by
      rcases hb with ⟨ea, eb⟩ | ⟨ea, eb⟩
      · rw [← ea, ← eb, d1, d1, e0]
      · rw [← ea, ← eb, d1, d1, e0]
    refine ⟨fun t => ?_, fun q hq => d2 q (by rw [hl]; exact List.mem_append_left _ hq)⟩
    rw [fb, ← d1 t]
    refine fill_comp _ fun s _ => ?_
    rw [fillT, flook]
    by_cases e : s = b
    · rw [if_pos e, e]; exact e1.symm
    · rw [if_neg e]; rfl
  · intro θ h1 h2
    have eg : fillT [(b, g)] (.bl b) = g := by rw [fillT, flook, if_pos rfl]; rfl
    have h3 : ∀ t, fillT θ (fillT φ t) = fillT θ t := fun t => by
      rw [← h2 (fillT φ t), fb]
      have : fillT φ (fillT φ t) = fillT φ t := by
        refine fill_comp t fun s hs => ?_
        cases hls : look φ s with
        | none => rw [fillT, hls]; simp [fillT, hls]
        | some u =>
          rw [fillT, hls]
          exact fill_id u fun r hr => (h.vb _ (look_mem hls) r hr).2
      rw [this, ← fb, h2]
    refine h.E θ (fun q hq => ?_) h3
    rw [hl] at hq
    rcases List.mem_append.mp hq with e | e
    · exact h1 q e
    · rw [List.mem_singleton.mp e]
      show fillT θ x = fillT θ y
      have gg := gsame g gn
      rcases hb with ⟨ea, eb⟩ | ⟨ea, eb⟩
      · rw [← h2 x, ← h2 y, fb, fb, ea, eb, eg, gg]
      · rw [← h2 x, ← h2 y, fb, fb, ea, eb, eg, gg]
theorem Inv.down (h : Inv one other φ left) (o1 : okT one = true) (o2 : okT other = true) (a1 : arT 3 one = true) (a2 : arT 3 other = true) {x y : Tm} {l : Prs} {a : Str} {ps qs : List Tm} (hl : left = l ++ [(x, y)]) (hx : fillT φ x = .nd a ps) (hy : fillT φ y = .nd a qs) (he : ps.length = qs.length) : Inv one other φ (l ++ ps.zip qs) := by
  have hat : left[l.length]? = some (x, y) := by rw [hl]; simp
  have hp := h.st _ x y hat
  obtain ⟨ix, iy⟩ := h.its o1 o2 a1 a2 hp
  rw [hx] at ix
  rw [hy] at iy
  have sx := ix.same
  have sy := iy.same
  have ex : ∀ k u, ps[k]? = some u → fillT φ u = u := fun k u hu => fill_id u fun s hs => (ix.b s (by rw [flatB]; exact flats_mem (List.mem_of_getElem? hu) hs)).2
  have ey : ∀ k u, qs[k]? = some u → fillT φ u = u := fun k u hu => fill_id u fun s hs => (iy.b s (by rw [flatB]; exact flats_mem (List.mem_of_getElem? hu) hs)).2
  have ixa := ix.a
  rw [arT, Bool.and_eq_true, decide_eq_true_iff] at ixa
  have iya := iy.a
  rw [arT, Bool.and_eq_true, decide_eq_true_iff] at iya
  have ixo := ix.o
  rw [okT, Bool.and_eq_true] at ixo
  have iyo := iy.o
  rw [okT, Bool.and_eq_true] at iyo
  have hz : ∀ k u v, (ps.zip qs)[k]? = some (u, v) → ps[k]? = some u ∧ qs[k]? = some v := fun k u v e => by
    have hk := ix_lt e
    rw [List.length_zip] at hk
    rw [List.getElem?_eq_getElem (by rw [List.length_zip]; omega), List.getElem_zip] at e
    cases e
    exact ⟨List.getElem?_eq_getElem (by omega), List.getElem?_eq_getElem (by omega)⟩
  refine { h with st := ?_, so := ?_, D := ?_, E := ?_ }
  · intro j u v e
    rcases Nat.lt_or_ge j l.length with hj | hj
    · rw [List.getElem?_append_left hj] at e
      exact h.st j u v (by rw [hl, List.getElem?_append_left hj]; exact e)
    · rw [List.getElem?_append_right hj] at e
      obtain ⟨e1, e2⟩ := hz _ u v e
      have hk := ix_lt e1
      obtain ⟨p, hp1, r⟩ := hp
      refine ⟨p ++ [j - l.length], by rw [List.length_append]; simp; omega, ?_⟩
      rw [ex _ u e1, ey _ v e2]
      have s1 : sub (.nd a ps) [j - l.length] = some u := by rw [sub, e1]; exact sub_nil u
      have s2 : sub (.nd a qs) [j - l.length] = some v := by rw [sub, e2]; exact sub_nil v
      rw [hx, hy] at r
      rcases r with ⟨r1, r2⟩ | ⟨r1, r2⟩
      · exact .inl ⟨by rw [sub_app r1]; exact s1, by rw [sub_app r2]; exact s2⟩
      · exact .inr ⟨by rw [sub_app r1]; exact s1, by rw [sub_app r2]; exact s2⟩
  · intro q hq
    rcases List.mem_append.mp hq with e | e
    · exact h.so q (by rw [hl]; exact List.mem_append_left _ e)
    · obtain ⟨u, v⟩ := q
      have h1 := List.of_mem_zip e
      have dx := ix.d
      have dy := iy.d
      rw [dep] at dx dy
      have := dep_mem h1.1
      have := dep_mem h1.2
      exact ⟨⟨okTs_mem.mp ixo.2 u h1.1, okTs_mem.mp iyo.2 v h1.2⟩, ⟨arTs_mem.mp ixa.2 u h1.1, arTs_mem.mp iya.2 v h1.2⟩, by show dep u ≤ _; omega, by show dep v ≤ _; omega⟩
  · intro θ hθ
    obtain ⟨d1, d2⟩ := h.D θ hθ
    refine ⟨d1, fun q hq => ?_⟩
    rcases List.mem_append.mp hq with e | e
    · exact d2 q (by rw [hl]; exact List.mem_append_left _ e)
    · have e0 : fillT θ x = fillT θ y := d2 (x, y) (by rw [hl]; simp)
      have e1 : fillT θ (.nd a ps) = fillT θ (.nd a qs) := by rw [← hx, ← hy, d1, d1, e0]
      rw [fillT, fillT, Tm.nd.injEq, fillTs_map, fillTs_map] at e1
      obtain ⟨k, hk⟩ := List.mem_iff_getElem?.mp e
      obtain ⟨z1, z2⟩ := hz k q.1 q.2 hk
      have := congrArg (fun l => l[k]?) e1.2
      simp only [List.getElem?_map, z1, z2, Option.map_some, Option.some.injEq] at this
      exact this
  · intro θ h1 h2
    refine h.E θ (fun q hq => ?_) h2
    rw [hl] at hq
    rcases List.mem_append.mp hq with e | e
    · exact h1 q (List.mem_append_left _ e)
    · rw [List.mem_singleton.mp e]
      show fillT θ x = fillT θ y
      rw [← h2 x, ← h2 y, hx, hy, fillT, fillT, Tm.nd.injEq]
      refine ⟨rfl, ?_⟩
      rw [fillTs_map, fillTs_map]
      apply List.ext_getElem?
      intro k
      rw [List.getElem?_map, List.getElem?_map]
      rcases Nat.lt_or_ge k ps.length with hk | hk
      · have hk2 : k < qs.length := by omega
        have := h1 (ps[k], qs[k]) (List.mem_append_right _ (List.mem_iff_getElem?.mpr ⟨k, by rw [List.getElem?_eq_getElem (by rw [List.length_zip]; omega), List.getElem_zip]⟩))
        rw [List.getElem?_eq_getElem hk, List.getElem?_eq_getElem hk2]
        simp only [Option.map_some, this]
      · rw [List.getElem?_eq_none hk, List.getElem?_eq_none (by omega)]
/-- the answer -/
structure MG (one other : Tm) (φ : Fi) : Prop where
  un : fillT φ one = fillT φ other
  nd : (fkeys φ).Nodup
  ko : ∀ p ∈ φ, PyData.strOk p.1 = true
  kb : ∀ p ∈ φ, p.1 ∈ blks one other
  vb : ∀ p ∈ φ, ∀ s ∈ flatB p.2, s ∈ blks one other ∧ look φ s = none
  vo : ∀ p ∈ φ, okT p.2 = true
  va : ∀ p ∈ φ, arT 3 p.2 = true
  vd : ∀ p ∈ φ, dep p.2 ≤ most one other
  d1 : dep (fillT φ one) ≤ most one other
  len : φ.length ≤ (blks one other).length
  mg : ∀ θ, fillT θ one = fillT θ other → ∀ t, fillT θ (fillT φ t) = fillT θ t
theorem Inv.done (h : Inv one other φ []) : MG one other φ where
  un := h.E φ (fun _ z => nomatch z) fun t => by
    refine fill_comp t fun s hs => ?_
    cases hls : look φ s with
    | none => rw [fillT, hls]; simp [fillT, hls]
    | some u =>
      rw [fillT, hls]
      exact fill_id u fun r hr => (h.vb _ (look_mem hls) r hr).2
  nd := h.nd
  ko := h.ko
  kb := h.kb
  vb := h.vb
  vo := h.vo
  va := h.va
  vd := fun p hp => by have := dep_le_of (h.vn p hp); rw [List.length_map] at this; exact this
  d1 := h.dep1 orig1
  len := h.len
  mg := fun θ hθ => (h.D θ hθ).1
end
theorem inv0 {one other : Tm} (o1 : okT one = true) (o2 : okT other = true) (a1 : arT 3 one = true) (a2 : arT 3 other = true) : Inv one other [] [(one, other)] where
  nd := List.nodup_nil
  kb := fun _ z => nomatch z
  ko := fun _ z => nomatch z
  vb := fun _ z => nomatch z
  vo := fun _ z => nomatch z
  va := fun _ z => nomatch z
  vn := fun _ z => nomatch z
  st := fun j x y e => by
    have hj := ix_lt e
    simp at hj
    subst hj
    cases e
    exact ⟨[], by simp, .inl ⟨sub_nil _, sub_nil _⟩⟩
  so := fun q hq => by
    rw [List.mem_singleton.mp hq]
    refine ⟨⟨o1, o2⟩, ⟨a1, a2⟩, ?_, ?_⟩
    · exact dep_le_of orig1
    · exact dep_le_of orig2
  D := fun θ hθ => ⟨fun t => by rw [fill_nil], fun q hq => by rw [List.mem_singleton.mp hq]; exact hθ⟩
  E := fun θ h1 _ => h1 (one, other) (by simp)
end Pu
end

section
set_option Elab.async false
set_option linter.all false
set_option maxRecDepth 100000
set_option maxHeartbeats 1000000
namespace Pu
open En PySem Sh
section
variable {β : Type}
theorem p_head {s : Str} {ps : List Tm} {K : D → P β} : oP (op2 .idx (toD (.nd s ps)) (.int 0)) K = K (.str s) := by rw [toD, p_idx0T]
theorem p_lenTm {s : Str} {ps : List Tm} {K : D → P β} : oP (op1 .len (toD (.nd s ps))) K = K (.int ((ps.length + 1 : Nat) : Int)) := by rw [toD, p_lenT, List.length_cons, toDs_map, List.length_map]
end
section
variable {T : Tab}
theorem c_filledA (h : HF T) {a : Nat} (ha : a ≤ 1000) (φ : Fi) : ∀ (n : Nat) (t : Tm), dep t + 2 ≤ n → arT a t = true → callC T n "filled" [toD t, .dic (fiD φ)] = .ok (toD (fillT φ t), .non) := by
  intro n
  induction n with
  | zero => intro t hd; omega
  | succ m ih =>
    intro t hd ht
    rw [h.fi]
    unfold X_filled
    refine (bk (c_is_blank h.bk (n := m) (by omega) t) _).trans ?_; try dsimp only
    rw [p_B]
    cases t with
    | bl s =>
      have hs : (!(!strK (fiD φ) || false)) = true := by rw [strK_fi]; rfl
      rw [isB, p_ct, p_D, p_if hs, toD, p_S, getD_fi]
    | nd s ps =>
      rw [arT, Bool.and_eq_true, decide_eq_true_iff] at ht
      rw [isB, p_cf, p_head]
      refine (bk (c_inner h.toHI (n := m) (by rw [dep] at hd; omega) (.nd s ps)) _).trans ?_; try dsimp only
      simp only [kids]
      rw [p_seqL, p_if (by rw [List.length_map]; exact sz_of (by omega))]
      refine (lc0_map ps toD (fun u => toD (fillT φ u)) fun u hu k => ?_).trans ?_
      · have hu' : u ∈ kids (.nd s ps) := hu
        have := ih u (by have := dep_kid hu'; omega) (arTs_mem.mp ht.2 u hu)
        rw [bk this]
      · rw [p_tupL, p_addT (by simp; exact sz_of (by omega))]
        have : (ps.map fun u => toD (fillT φ u)) = (ps.map (fillT φ)).map toD := by rw [List.map_map]; rfl
        rw [this, fillT, fillTs_map, tup_cons]
theorem c_law_filledA (h : Is2 T "_law_filled" X__law_filled) {a : Nat} (ha : a ≤ 1000) (φ : Fi) : ∀ (n : Nat) (t : Tm), dep t + 2 ≤ n → arT a t = true → callC T n "_law_filled" [toD t, .dic (fiD φ)] = .ok (toD (fillT φ t), .non) := by
  intro n
  induction n with
  | zero => intro t hd; omega
  | succ m ih =>
    intro t hd ht
    rw [h]
    unfold X__law_filled
    cases t with
    | bl s =>
      have hs : (!(!strK (fiD φ) || false)) = true := by rw [strK_fi]; rfl
      rw [toD, p_isS_S, p_B, p_ct, p_D, p_if hs, p_S, getD_fi]
    | nd s ps =>
      rw [arT, Bool.and_eq_true, decide_eq_true_iff] at ht
      rw [toD, p_isS_T, p_B, p_cf, p_slT, cut_one, p_slT, cut_tail, p_seqT, toDs_map, p_if (by rw [List.length_map]; exact sz_of (by omega))]
      refine (lc0_map ps toD (fun u => toD (fillT φ u)) fun u hu k => ?_).trans ?_
      · have hu' : u ∈ kids (.nd s ps) := hu
        have := ih u (by have := dep_kid hu'; omega) (arTs_mem.mp ht.2 u hu)
        rw [bk this]
      · rw [p_tupL, p_addT (by simp; exact sz_of (by omega))]
        have : (ps.map fun u => toD (fillT φ u)) = (ps.map (fillT φ)).map toD := by rw [List.map_map]; rfl
        rw [this, fillT, fillTs_map, tup_cons]
structure HM (T : Tab) : Prop extends HF T where
  bo : Is1 T "blanks_of" X_blanks_of
  bd : Is3 T "bound" X_bound
  ma : Is2 T "made_alike" X_made_alike
theorem blanksOf_le {t : Tm} {B : List Str} (h : ∀ s ∈ flatB t, s ∈ B) : (blanksOf t).length ≤ B.length := nodup_le _ _ (blanksOf_nodup t) fun s hs => h s (mem_blanksOf.mp hs)
theorem c_blanks_of (hi : HI T) (h : Is1 T "blanks_of" X_blanks_of) {B : List Str} (hB : B.length ≤ 10000) : ∀ (n : Nat) {t : Tm}, dep t + 2 ≤ n → okT t = true → arT 1000 t = true → (∀ s ∈ flatB t, s ∈ B) → callC T n "blanks_of" [toD t] = .ok (.lst ((blanksOf t).map D.str), .non) := by
  intro n
  induction n with
  | zero => intro t hd; omega
  | succ n ih =>
    intro t hd ht ha hb
    rw [h]
    unfold X_blanks_of
    refine (bk (c_is_blank hi.bk (n := n) (by omega) t) _).trans ?_; try dsimp only
    rw [p_B]
    cases t with
    | bl s => rfl
    | nd s ps =>
      rw [okT, Bool.and_eq_true] at ht
      rw [arT, Bool.and_eq_true, decide_eq_true_iff] at ha
      rw [isB, p_cf, p_ldL]
      refine (bk (c_inner hi (n := n) (by rw [dep] at hd; omega) (.nd s ps)) _).trans ?_; try dsimp only
      simp only [kids]
      rw [p_seqL, p_if (by rw [List.length_map]; exact sz_of (by omega))]
      refine loop1_inv ps toD (fun acc : List Str => .lst (acc.map D.str)) (fun i acc => acc = addAll [] (flatBs (ps.take i))) [] (by simp [flatBs, addAll]) (fun i acc x hacc hx => ?_) (fun acc hacc => ?_)
      · have hxm := ix_mem hx
        have xo := okTs_mem.mp ht.2 x hxm
        have xa := arTs_mem.mp ha.2 x hxm
        have xd := dep_mem hxm
        rw [dep] at hd
        have t1 : ps.take (i + 1) = ps.take i ++ [x] := by rw [List.take_add_one, hx]; rfl
        have fsub : ∀ s ∈ flatBs (ps.take i), s ∈ flatBs ps := fun s hs => by
          have := flatBs_app (ps.take i) (ps.drop i)
          rw [List.take_append_drop] at this
          rw [this]; exact List.mem_append_left _ hs
        have hal : acc.length ≤ B.length := by
          rw [hacc]
          refine nodup_le _ _ (nodup_addAll _ _ List.nodup_nil) fun s hs => ?_
          rw [mem_addAll] at hs
          rcases hs with z | z
          · cases z
          · exact hb s (by rw [flatB]; exact fsub s z)
        have aok : ∀ s ∈ acc, PyData.strOk s = true := fun s hs => by
          rw [hacc, mem_addAll] at hs
          rcases hs with z | z
          · cases z
          · exact flats_ok ps ht.2 s (fsub s z)
        have xb : ∀ s ∈ flatB x, s ∈ B := fun s hs => hb s (by rw [flatB]; exact flats_mem hxm hs)
        refine ⟨acc ++ (blanksOf x).filter (fun y => !decide (y ∈ acc)), ?_, fun k => ?_⟩
        · rw [t1, flatBs_app, addAll_app, ← hacc]
          show _ = addAll acc (flatB x ++ [])
          rw [List.append_nil]
          exact addAll_filter acc (flatB x)
        · refine (bk (ih (t := x) (by omega) xo xa xb) _).trans ?_; try dsimp only
          have bl := blanksOf_le xb
          rw [p_seqL, p_if (by rw [List.length_map]; exact sz_of (by omega))]
          refine (lc0_if (blanksOf x) D.str (fun y => !decide (y ∈ acc)) D.str fun y hy k => ?_).trans ?_
          · rw [p_ninS aok (flat_ok x xo y (mem_blanksOf.mp hy)), p_B]
            by_cases hb : y ∈ acc
            · simp [hb]
            · simp [hb]
          · rw [p_L, p_if (by
              have := List.length_filter_le (fun y => !decide (y ∈ acc)) (blanksOf x)
              rw [List.length_map, List.length_map]; exact sz_of (by omega)), List.map_append]
      · rw [hacc, List.take_length, p_ldL]; rfl
theorem ar_mono {j k : Nat} (h : j ≤ k) : (∀ t, arT j t = true → arT k t = true) ∧ ∀ ts, arTs j ts = true → arTs k ts = true := by
  have : ∀ n, (∀ t, parts t ≤ n → arT j t = true → arT k t = true) ∧ ∀ ts, partss ts ≤ n → arTs j ts = true → arTs k ts = true := by
    intro n
    induction n with
    | zero =>
      refine ⟨fun t ht => by have := parts_pos t; omega, fun ts hts _ => ?_⟩
      cases ts with
      | nil => rfl
      | cons t ts => rw [partss] at hts; have := parts_pos t; omega
    | succ n ih =>
      have h1 : ∀ t, parts t ≤ n + 1 → arT j t = true → arT k t = true := fun t ht ha => by
        cases t with
        | bl s => rfl
        | nd s ps =>
          rw [arT, Bool.and_eq_true, decide_eq_true_iff] at ha ⊢
          rw [parts] at ht
          exact ⟨by omega, ih.2 ps (by omega) ha.2⟩
      refine ⟨h1, fun ts hts ha => arTs_mem.mpr fun t ht => h1 t (by have := parts_mem ht; omega) (arTs_mem.mp ha t ht)⟩
  exact ⟨fun t ha => (this (parts t)).1 t (Nat.le_refl _) ha, fun ts ha => (this (partss ts)).2 ts (Nat.le_refl _) ha⟩
theorem c_bound (h : HM T) {n : Nat} {φ : Fi} {b : Str} {g : Tm} {d : Nat} (hn : d + 3 ≤ n) (hl : φ.length ≤ 10000) (hnd : (fkeys φ).Nodup) (hv : ∀ p ∈ φ, arT 3 p.2 = true ∧ dep p.2 ≤ d) (hb : look φ b = none) :
    callC T n "bound" [.dic (fiD φ), .str b, toD g] = .ok (.dic (fiD (bind2 φ b g)), .non) := by
  obtain ⟨m, rfl⟩ : ∃ m, n = m + 1 := ⟨n - 1, by omega⟩
  rw [h.bd]
  unfold X_bound
  rw [p_ldD, p_D, p_items (strK_fi φ), p_if (by unfold fiD; simp; exact sz_of (by omega))]
  have e1 : ((fiD φ).map fun kv => D.tup [kv.1, kv.2]) = φ.map fun p => .tup [.str p.1, toD p.2] := by unfold fiD; rw [List.map_map]; rfl
  rw [e1, show ([] : List (D × D)) = fiD [] from rfl]
  refine loop1_inv φ (fun p => .tup [.str p.1, toD p.2]) (fun ψ : Fi => .dic (fiD ψ)) (fun i ψ => ψ = (φ.take i).map (fun p => (p.1, fillT [(b, g)] p.2))) [] (by simp) (fun i ψ x hψ hx => ?_) (fun ψ hψ => ?_)
  · have hxm := ix_mem hx
    have t1 : φ.take (i + 1) = φ.take i ++ [x] := by rw [List.take_add_one, hx]; rfl
    have hnew : look ψ x.1 = none := by
      rw [hψ, look_none]
      intro z
      unfold fkeys at z
      rw [List.map_map] at z
      obtain ⟨q, hq, e⟩ := List.mem_map.mp z
      simp only [Function.comp_def] at e
      have hi := ix_lt hx
      obtain ⟨j, hj, e2⟩ := List.mem_iff_getElem.mp hq
      rw [List.length_take] at hj
      rw [List.getElem_take] at e2
      have hx' : φ[i] = x := by rw [List.getElem?_eq_getElem hi] at hx; cases hx; rfl
      have := List.pairwise_iff_getElem.mp hnd j i (by unfold fkeys; simp; omega) (by unfold fkeys; simp; omega) (by omega)
      unfold fkeys at this
      simp only [List.getElem_map] at this
      exact this (by rw [e2, hx', e])
    refine ⟨ψ ++ [(x.1, fillT [(b, g)] x.2)], by rw [t1, List.map_append, hψ]; rfl, fun k => ?_⟩
    rw [p_TLt, p_un2, p_S]
    refine (bk (c_filledA h.toHF (a := 3) (by omega) [(b, g)] m x.2 (by have := (hv x hxm).2; omega) (hv x hxm).1) _).trans ?_; try dsimp only
    rw [p_setFi (by rw [hψ]; simp; omega), fput_new hnew]
  · rw [List.take_length] at hψ
    have hb2 : look ψ b = none := by
      rw [hψ, look_none]
      have := look_none.mp hb
      unfold fkeys at this ⊢
      rw [List.map_map]; exact this
    rw [p_setFi (by rw [hψ]; simp; omega), fput_new hb2, p_ldD, hψ]; rfl
end
end Pu
end

section
set_option Elab.async false
set_option linter.all false
set_option maxRecDepth 100000
set_option maxHeartbeats 1000000
namespace Pu
open En PySem Sh
def prD (q : Tm × Tm) : D := .tup [toD q.1, toD q.2]
def sumP (φ : Fi) (l : Prs) : Nat := (l.map fun q => parts (fillT φ q.1)).sum
def big (one other : Tm) : Nat := (3 * most one other + 3) * 3 ^ most one other + 1
def meas (one other : Tm) (s : Fi × Prs) : Nat := ((blks one other).length + 1 - s.1.length) * big one other + sumP s.1 s.2
theorem plDs_prs : ∀ l : Prs, plDs (l.map prD) = true
  | [] => rfl
  | q :: l => by rw [List.map_cons, plDs, plDs_prs l, prD, plD, plDs, plDs, plDs, plD_tm, plD_tm]; rfl
theorem prs_lay {d : Nat} : ∀ l : Prs, (∀ q ∈ l, (okT q.1 = true ∧ okT q.2 = true) ∧ dep q.1 ≤ d ∧ dep q.2 ≤ d) → PyData.canLayAll0 (D.toPs (l.map prD)) = true ∧ PyData.depthAll (D.toPs (l.map prD)) ≤ 2 * d + 1
  | [], _ => ⟨rfl, by show 0 ≤ _; omega⟩
  | q :: l, h => by
    obtain ⟨a, b⟩ := prs_lay l fun q hq => h q (.tail _ hq)
    obtain ⟨⟨o1, o2⟩, d1, d2⟩ := h q (.head _)
    refine ⟨?_, ?_⟩
    · show (PyData.canLayAll0 [(toD q.1).toP, (toD q.2).toP] && PyData.canLayAll0 (D.toPs (l.map prD))) = true
      rw [a, PyData.canLayAll0, PyData.canLayAll0, lay_tm _ o1, lay_tm _ o2]; rfl
    · show max (PyData.depthAll [(toD q.1).toP, (toD q.2).toP] + 1) (PyData.depthAll (D.toPs (l.map prD))) ≤ _
      have := depth_tm q.1
      have := depth_tm q.2
      have e : PyData.depthAll [(toD q.1).toP, (toD q.2).toP] ≤ 2 * d := by
        show max _ (max _ 0) ≤ _
        omega
      omega
theorem eqOk_prs {d : Nat} {l : Prs} (hd : d ≤ 70) (h : ∀ q ∈ l, (okT q.1 = true ∧ okT q.2 = true) ∧ dep q.1 ≤ d ∧ dep q.2 ≤ d) : (D.lst (l.map prD)).eqOk = true := by
  obtain ⟨a, b⟩ := prs_lay l h
  show (PyData.canLayAll0 (D.toPs (l.map prD)) && decide (PyData.depthAll (D.toPs (l.map prD)) + 1 ≤ 150)) = true
  rw [a, Bool.true_and]
  exact decide_eq_true (by omega)
theorem sum_le {φ : Fi} {m : Nat} : ∀ l : Prs, (∀ q ∈ l, parts (fillT φ q.1) ≤ m) → sumP φ l ≤ l.length * m
  | [], _ => by simp [sumP]
  | q :: l, h => by
    have := sum_le l fun q hq => h q (.tail _ hq)
    have := h q (.head _)
    show parts (fillT φ q.1) + sumP φ l ≤ _
    rw [List.length_cons, Nat.add_mul]; omega
theorem sumP_app (φ : Fi) (a b : Prs) : sumP φ (a ++ b) = sumP φ a + sumP φ b := by unfold sumP; rw [List.map_append, List.sum_append]
theorem sumP_zip {φ : Fi} : ∀ (ps qs : List Tm), (∀ u ∈ ps, fillT φ u = u) → sumP φ (ps.zip qs) ≤ partss ps
  | [], qs, _ => by cases qs <;> simp [sumP]
  | p :: ps, [], _ => by simp [sumP]
  | p :: ps, q :: qs, h => by
    have := sumP_zip ps qs fun u hu => h u (.tail _ hu)
    show parts (fillT φ p) + sumP φ (ps.zip qs) ≤ _
    rw [h p (.head _), partss]; omega
theorem Inv.sum_lt {one other : Tm} {φ : Fi} {left : Prs} (h : Inv one other φ left) (o1 : okT one = true) (o2 : okT other = true) (a1 : arT 3 one = true) (a2 : arT 3 other = true) : sumP φ left < big one other := by
  have h1 := sum_le (φ := φ) (m := 3 ^ most one other) left fun q hq => by
    obtain ⟨j, hj⟩ := List.mem_iff_getElem?.mp hq
    obtain ⟨i1, _⟩ := h.its o1 o2 a1 a2 (h.st j q.1 q.2 hj)
    have p1 := parts_ar _ i1.a
    have p2 : 3 ^ dep (fillT φ q.1) ≤ 3 ^ most one other := Nat.pow_le_pow_right (by omega) i1.d
    omega
  have h2 : left.length * 3 ^ most one other ≤ (3 * most one other + 3) * 3 ^ most one other := Nat.mul_le_mul_right _ h.llen
  unfold big
  omega
section
variable {T : Tab}
def maD (r : Option Fi) : D := match r with
  | some φ => .dic (fiD φ)
  | none => .non
def MaSpec (one other : Tm) (r : Option Fi) : Prop := match r with
  | some φ => MG one other φ
  | none => ∀ θ, fillT θ one ≠ fillT θ other
theorem c_made_alike (h : HM T) {n : Nat} {one other : Tm} (o1 : okT one = true) (o2 : okT other = true) (a1 : arT 3 one = true) (a2 : arT 3 other = true) (hm : most one other ≤ 60) (hb : (blks one other).length ≤ 1000) (hn : most one other + 5 ≤ n) :
    ∃ r, callC T n "made_alike" [toD one, toD other] = .ok (maD r, .non) ∧ MaSpec one other r := by
  obtain ⟨m, rfl⟩ : ∃ m, n = m + 1 := ⟨n - 1, by omega⟩
  rw [h.ma]
  unfold X_made_alike
  rw [p_ldL, show ([] : List (D × D)) = fiD [] from rfl, show [D.tup [toD one, toD other]] = ([(one, other)] : Prs).map prD from rfl]
  have fu : meas one other ([], [(one, other)]) < fuel := by
    have h1 := (inv0 o1 o2 a1 a2).sum_lt o1 o2 a1 a2
    have h2 : big one other ≤ 183 * 3 ^ 60 + 1 := by
      unfold big
      have e1 : 3 ^ most one other ≤ 3 ^ 60 := Nat.pow_le_pow_right (by omega) hm
      have e2 : (3 * most one other + 3) * 3 ^ most one other ≤ 183 * 3 ^ 60 := Nat.mul_le_mul (by omega) e1
      omega
    have h3 : meas one other ([], [(one, other)]) ≤ 1002 * (183 * 3 ^ 60 + 1) := by
      unfold meas
      simp only [List.length_nil, Nat.sub_zero]
      have e3 : ((blks one other).length + 1) * big one other ≤ 1001 * (183 * 3 ^ 60 + 1) := Nat.mul_le_mul (by omega) h2
      omega
    have h4 : 1002 * (183 * 3 ^ 60 + 1) < 10 ^ 100 := by decide
    have := fuel_ge
    omega
  refine wh2_G (fun s : Fi × Prs => .dic (fiD s.1)) (fun s => .lst (s.2.map prD)) (fun s => Inv one other s.1 s.2) (meas one other) (G := fun p : P (D × D) => ∃ r, p = .ok (maD r, D.non) ∧ MaSpec one other r) (fun s hI => ?_) fuel ([], [(one, other)]) (inv0 o1 o2 a1 a2) fu
  obtain ⟨φ, left⟩ := s
  simp only at hI ⊢
  have hlen := hI.len
  have hll := hI.llen
  have heq : ∀ {K : D → P (D × D)}, oP (op2 .ne (.lst (left.map prD)) (.lst [])) K = K (.bl (!decide (left = []))) := fun {K} =>
    p_ne (by rw [plD]; exact plDs_prs left) rfl (eqOk_prs (d := most one other) (by omega) fun q hq => ⟨(hI.so q hq).1, (hI.so q hq).2.2⟩) rfl (by cases left <;> simp)
  rcases List.eq_nil_or_concat left with hnil | ⟨l, ⟨x, y⟩, hcat⟩
  · refine .inr (.inl ⟨fun ag dn => ?_, some φ, rfl, ?_⟩)
    · rw [heq, p_B, p_cn (by rw [decide_eq_true hnil]; rfl)]
    · rw [hnil] at hI; exact hI.done
  · rw [List.concat_eq_append] at hcat
    have hx : left[l.length]? = some (x, y) := by rw [hcat]; simp
    obtain ⟨ix, iy⟩ := hI.its o1 o2 a1 a2 (hI.st _ x y hx)
    obtain ⟨⟨xo, yo⟩, ⟨xa, ya⟩, xd, yd⟩ := hI.so (x, y) (by rw [hcat]; simp)
    have cx := c_filledA h.toHF (a := 3) (by omega) φ m x (by simp only at xd; omega) xa
    have cy := c_filledA h.toHF (a := 3) (by omega) φ m y (by simp only at yd; omega) ya
    have hne : left ≠ [] := by rw [hcat]; simp
    have gl : (left.map prD).getLast? = some (prD (x, y)) := by rw [hcat]; simp
    have dl : (left.map prD).dropLast = l.map prD := by rw [hcat]; simp
    have hlpos : left.length = l.length + 1 := by rw [hcat]; simp
    have bx := c_is_blank h.bk (n := m) (by omega) (fillT φ x)
    have by' := c_is_blank h.bk (n := m) (by omega) (fillT φ y)
    have dx := ix.d
    have dy := iy.d
    have m1 : sumP φ left = sumP φ l + parts (fillT φ x) := by rw [hcat, sumP_app]; simp [sumP]
    have px := parts_pos (fillT φ x)
    -- from here: a blank ahead
    have bindC : ∀ (b : Str) (g : Tm), ((fillT φ x = .bl b ∧ fillT φ y = g) ∨ (fillT φ y = .bl b ∧ fillT φ x = g)) → g ≠ .bl b →
        (b ∉ flatB g → Inv one other (bind2 φ b g) l ∧ meas one other (bind2 φ b g, l) < meas one other (φ, left)) ∧ (b ∈ flatB g → ∀ θ, fillT θ one ≠ fillT θ other) := fun b g hbg hg => by
      refine ⟨fun hn => ?_, fun hi θ hθ => ?_⟩
      · have I2 := hI.bound o1 o2 a1 a2 hcat hbg hn
        refine ⟨I2, ?_⟩
        have s2 := I2.sum_lt o1 o2 a1 a2
        have l2 := I2.len
        have ln : (bind2 φ b g).length = φ.length + 1 := by unfold bind2; simp
        unfold meas
        simp only [ln]
        rw [ln] at l2
        have : (blks one other).length + 1 - φ.length = ((blks one other).length + 1 - (φ.length + 1)) + 1 := by omega
        rw [this, Nat.add_mul]
        omega
      · obtain ⟨d1, d2⟩ := hI.D θ hθ
        have e0 : fillT θ x = fillT θ y := d2 (x, y) (by rw [hcat]; simp)
        have e1 : fillT θ (.bl b) = fillT θ g := by
          rcases hbg with ⟨ea, eb⟩ | ⟨ea, eb⟩
          · rw [← ea, ← eb, d1, d1, e0]
          · rw [← ea, ← eb, d1, d1, e0]
        have := occ_parts (θ := θ) g hi hg
        rw [e1] at this
        omega
    cases hx2 : fillT φ x with
    | bl b =>
      rw [hx2] at bx cx ix px m1 bindC dx
      have bx' : callC T m "is_blank" [toD (.bl b)] = .ok (.bl true, .non) := bx
      have bo' : PyData.strOk b = true := ix.o
      have bnone : look φ b = none := (ix.b b (by simp [flatB])).2
      cases hy : fillT φ y with
      | bl c =>
        rw [hy] at by' cy iy bindC dy
        by_cases hbc : Tm.bl c = Tm.bl b
        · cases hbc
          have I1 := hI.popd (x := x) (y := y) hcat (hx2.trans hy.symm)
          refine .inl ⟨(φ, l), I1, by unfold meas; simp only [m1]; omega, fun ag dn => ?_⟩
          rw [heq, p_B, p_ci (by rw [decide_eq_false hne]; rfl), p_L, gl, p_opt, prD, p_TLt, p_un2]
          refine (bk (cx) _).trans ?_; try dsimp only
          refine (bk (cy) _).trans ?_; try dsimp only
          refine (bk (by') _).trans ?_; try dsimp only
          rw [p_B]
          rw [isB, p_j1, p_ct]
          refine (bk (bx') _).trans ?_; try dsimp only
          rw [p_B]
          try dsimp only
          rw [p_B, p_j2, p_cn (by rfl)]
          try dsimp only
          refine (bk (bx') _).trans ?_; try dsimp only
          rw [p_B, p_j1, p_ct]
          rw [p_neT (t := .bl b) (u := .bl b) bo' bo' (by simp [dep]) (by simp [dep])]
          try dsimp only
          rw [p_B, p_j2, p_cn (by simp)]
          refine (bk (bx') _).trans ?_; try dsimp only
          rw [p_B, p_j1, p_cn (by rfl), dl]
        · 
          obtain ⟨bc1, bc2⟩ := bindC b (.bl c) (.inl ⟨rfl, rfl⟩) hbc
          have gb : ∀ s ∈ flatB (.bl c), s ∈ blks one other := fun s hs => (iy.b s hs).1
          have gd := iy.d
          have ga := (ar_mono (j := 3) (k := 1000) (by omega)).1 _ iy.a
          have cb := c_blanks_of h.toHI h.bo (B := blks one other) (by omega) m (t := (.bl c)) (by omega) iy.o ga gb
          have bsok : ∀ s ∈ blanksOf (.bl c), PyData.strOk s = true := fun s hs => flat_ok _ iy.o s (mem_blanksOf.mp hs)
          by_cases hin : b ∈ flatB (.bl c)
          · refine .inr (.inr ⟨_, fun ag dn => ?_, none, rfl, bc2 hin⟩)
            rw [heq, p_B, p_ci (by rw [decide_eq_false hne]; rfl), p_L, gl, p_opt, prD, p_TLt, p_un2]
            refine (bk (cx) _).trans ?_; try dsimp only
            refine (bk (cy) _).trans ?_; try dsimp only
            refine (bk (by') _).trans ?_; try dsimp only
            rw [p_B]
            rw [isB, p_j1, p_ct]
            refine (bk (bx') _).trans ?_; try dsimp only
            rw [p_B]
            try dsimp only
            rw [p_B, p_j2, p_cn (by rfl)]
            try dsimp only
            refine (bk (bx') _).trans ?_; try dsimp only
            rw [p_B, p_j1, p_ct]
            rw [p_neT (by exact bo') iy.o (by simp [dep]) (by omega)]
            try dsimp only
            rw [p_B, p_j2, p_ci (by rw [decide_eq_false (Ne.symm hbc)]; rfl)]
            refine (bk (cb) _).trans ?_; try dsimp only
            rw [toD, p_innS bsok bo', p_B, p_ci (decide_eq_true (mem_blanksOf.mpr hin))]
            rfl
          · obtain ⟨I2, M2⟩ := bc1 hin
            refine .inl ⟨(bind2 φ b (.bl c), l), I2, M2, fun ag dn => ?_⟩
            rw [heq, p_B, p_ci (by rw [decide_eq_false hne]; rfl), p_L, gl, p_opt, prD, p_TLt, p_un2]
            refine (bk (cx) _).trans ?_; try dsimp only
            refine (bk (cy) _).trans ?_; try dsimp only
            refine (bk (by') _).trans ?_; try dsimp only
            rw [p_B]
            rw [isB, p_j1, p_ct]
            refine (bk (bx') _).trans ?_; try dsimp only
            rw [p_B]
            try dsimp only
            rw [p_B, p_j2, p_cn (by rfl)]
            try dsimp only
            refine (bk (bx') _).trans ?_; try dsimp only
            rw [p_B, p_j1, p_ct]
            rw [p_neT (by exact bo') iy.o (by simp [dep]) (by omega)]
            try dsimp only
            rw [p_B, p_j2, p_ci (by rw [decide_eq_false (Ne.symm hbc)]; rfl)]
            refine (bk (cb) _).trans ?_; try dsimp only
            rw [toD, p_innS bsok bo', p_B, p_cn (decide_eq_false (fun z => hin (mem_blanksOf.mp z)))]
            refine (bk (c_bound h (n := m) (φ := φ) (b := b) (g := (.bl c)) (d := most one other) (by omega) (by omega) hI.nd (fun p hp => ⟨hI.va p hp, by have := dep_le_of (hI.vn p hp); rw [List.length_map] at this; exact this⟩) bnone) _).trans ?_; try dsimp only
            rw [dl]
      | nd b2 qs =>
        rw [hy] at by' cy iy bindC dy
        have hbc : Tm.nd b2 qs ≠ Tm.bl b := fun z => nomatch z
        obtain ⟨bc1, bc2⟩ := bindC b (.nd b2 qs) (.inl ⟨rfl, rfl⟩) hbc
        have gb : ∀ s ∈ flatB (.nd b2 qs), s ∈ blks one other := fun s hs => (iy.b s hs).1
        have gd := iy.d
        have ga := (ar_mono (j := 3) (k := 1000) (by omega)).1 _ iy.a
        have cb := c_blanks_of h.toHI h.bo (B := blks one other) (by omega) m (t := (.nd b2 qs)) (by omega) iy.o ga gb
        have bsok : ∀ s ∈ blanksOf (.nd b2 qs), PyData.strOk s = true := fun s hs => flat_ok _ iy.o s (mem_blanksOf.mp hs)
        by_cases hin : b ∈ flatB (.nd b2 qs)
        · refine .inr (.inr ⟨_, fun ag dn => ?_, none, rfl, bc2 hin⟩)
          rw [heq, p_B, p_ci (by rw [decide_eq_false hne]; rfl), p_L, gl, p_opt, prD, p_TLt, p_un2]
          refine (bk (cx) _).trans ?_; try dsimp only
          refine (bk (cy) _).trans ?_; try dsimp only
          refine (bk (by') _).trans ?_; try dsimp only
          rw [p_B]
          rw [isB, p_j1, p_cf]
          try dsimp only
          rw [p_B, p_j2, p_cn (by rfl)]
          try dsimp only
          refine (bk (bx') _).trans ?_; try dsimp only
          rw [p_B, p_j1, p_ct]
          rw [p_neT (by exact bo') iy.o (by simp [dep]) (by omega)]
          try dsimp only
          rw [p_B, p_j2, p_ci (by rw [decide_eq_false (Ne.symm hbc)]; rfl)]
          refine (bk (cb) _).trans ?_; try dsimp only
          rw [toD, p_innS bsok bo', p_B, p_ci (decide_eq_true (mem_blanksOf.mpr hin))]
          rfl
        · obtain ⟨I2, M2⟩ := bc1 hin
          refine .inl ⟨(bind2 φ b (.nd b2 qs), l), I2, M2, fun ag dn => ?_⟩
          rw [heq, p_B, p_ci (by rw [decide_eq_false hne]; rfl), p_L, gl, p_opt, prD, p_TLt, p_un2]
          refine (bk (cx) _).trans ?_; try dsimp only
          refine (bk (cy) _).trans ?_; try dsimp only
          refine (bk (by') _).trans ?_; try dsimp only
          rw [p_B]
          rw [isB, p_j1, p_cf]
          try dsimp only
          rw [p_B, p_j2, p_cn (by rfl)]
          try dsimp only
          refine (bk (bx') _).trans ?_; try dsimp only
          rw [p_B, p_j1, p_ct]
          rw [p_neT (by exact bo') iy.o (by simp [dep]) (by omega)]
          try dsimp only
          rw [p_B, p_j2, p_ci (by rw [decide_eq_false (Ne.symm hbc)]; rfl)]
          refine (bk (cb) _).trans ?_; try dsimp only
          rw [toD, p_innS bsok bo', p_B, p_cn (decide_eq_false (fun z => hin (mem_blanksOf.mp z)))]
          refine (bk (c_bound h (n := m) (φ := φ) (b := b) (g := (.nd b2 qs)) (d := most one other) (by omega) (by omega) hI.nd (fun p hp => ⟨hI.va p hp, by have := dep_le_of (hI.vn p hp); rw [List.length_map] at this; exact this⟩) bnone) _).trans ?_; try dsimp only
          rw [dl]
    | nd a ps =>
      rw [hx2] at bx cx ix px m1 bindC dx
      have bx' : callC T m "is_blank" [toD (.nd a ps)] = .ok (.bl false, .non) := bx
      cases hy : fillT φ y with
      | bl b =>
        rw [hy] at by' cy iy bindC dy
        have by2 : callC T m "is_blank" [toD (.bl b)] = .ok (.bl true, .non) := by'
        have bo' : PyData.strOk b = true := iy.o
        have bnone : look φ b = none := (iy.b b (by simp [flatB])).2
        have hbc : Tm.nd a ps ≠ Tm.bl b := fun z => nomatch z
        obtain ⟨bc1, bc2⟩ := bindC b (.nd a ps) (.inr ⟨rfl, rfl⟩) hbc
        have gb : ∀ s ∈ flatB (.nd a ps), s ∈ blks one other := fun s hs => (ix.b s hs).1
        have gd := ix.d
        have ga := (ar_mono (j := 3) (k := 1000) (by omega)).1 _ ix.a
        have cb := c_blanks_of h.toHI h.bo (B := blks one other) (by omega) m (t := (.nd a ps)) (by omega) ix.o ga gb
        have bsok : ∀ s ∈ blanksOf (.nd a ps), PyData.strOk s = true := fun s hs => flat_ok _ ix.o s (mem_blanksOf.mp hs)
        by_cases hin : b ∈ flatB (.nd a ps)
        · refine .inr (.inr ⟨_, fun ag dn => ?_, none, rfl, bc2 hin⟩)
          rw [heq, p_B, p_ci (by rw [decide_eq_false hne]; rfl), p_L, gl, p_opt, prD, p_TLt, p_un2]
          refine (bk (cx) _).trans ?_; try dsimp only
          refine (bk (cy) _).trans ?_; try dsimp only
          refine (bk (by') _).trans ?_; try dsimp only
          rw [p_B]
          rw [isB, p_j1, p_ct]
          refine (bk (bx') _).trans ?_; try dsimp only
          rw [p_B]
          try dsimp only
          rw [p_B, p_j2, p_ci (by rfl)]
          try dsimp only
          refine (bk (by2) _).trans ?_; try dsimp only
          rw [p_B, p_j1, p_ct]
          rw [p_neT (by exact bo') ix.o (by simp [dep]) (by omega)]
          try dsimp only
          rw [p_B, p_j2, p_ci (by rw [decide_eq_false (Ne.symm hbc)]; rfl)]
          refine (bk (cb) _).trans ?_; try dsimp only
          rw [toD, p_innS bsok bo', p_B, p_ci (decide_eq_true (mem_blanksOf.mpr hin))]
          rfl
        · obtain ⟨I2, M2⟩ := bc1 hin
          refine .inl ⟨(bind2 φ b (.nd a ps), l), I2, M2, fun ag dn => ?_⟩
          rw [heq, p_B, p_ci (by rw [decide_eq_false hne]; rfl), p_L, gl, p_opt, prD, p_TLt, p_un2]
          refine (bk (cx) _).trans ?_; try dsimp only
          refine (bk (cy) _).trans ?_; try dsimp only
          refine (bk (by') _).trans ?_; try dsimp only
          rw [p_B]
          rw [isB, p_j1, p_ct]
          refine (bk (bx') _).trans ?_; try dsimp only
          rw [p_B]
          try dsimp only
          rw [p_B, p_j2, p_ci (by rfl)]
          try dsimp only
          refine (bk (by2) _).trans ?_; try dsimp only
          rw [p_B, p_j1, p_ct]
          rw [p_neT (by exact bo') ix.o (by simp [dep]) (by omega)]
          try dsimp only
          rw [p_B, p_j2, p_ci (by rw [decide_eq_false (Ne.symm hbc)]; rfl)]
          refine (bk (cb) _).trans ?_; try dsimp only
          rw [toD, p_innS bsok bo', p_B, p_cn (decide_eq_false (fun z => hin (mem_blanksOf.mp z)))]
          refine (bk (c_bound h (n := m) (φ := φ) (b := b) (g := (.nd a ps)) (d := most one other) (by omega) (by omega) hI.nd (fun p hp => ⟨hI.va p hp, by have := dep_le_of (hI.vn p hp); rw [List.length_map] at this; exact this⟩) bnone) _).trans ?_; try dsimp only
          rw [dl]
      | nd b2 qs =>
        rw [hy] at by' cy iy bindC dy
        have by2 : callC T m "is_blank" [toD (.nd b2 qs)] = .ok (.bl false, .non) := by'
        have ao := ix.o
        rw [okT, Bool.and_eq_true] at ao
        have bo := iy.o
        rw [okT, Bool.and_eq_true] at bo
        have aa := ix.a
        rw [arT, Bool.and_eq_true, decide_eq_true_iff] at aa
        have ba := iy.a
        rw [arT, Bool.and_eq_true, decide_eq_true_iff] at ba
        have no : ¬ (a = b2 ∧ ps.length = qs.length) → ∀ θ, fillT θ one ≠ fillT θ other := fun hno θ hθ => by
          obtain ⟨d1, d2⟩ := hI.D θ hθ
          have e0 : fillT θ x = fillT θ y := d2 (x, y) (by rw [hcat]; simp)
          have e1 : fillT θ (.nd a ps) = fillT θ (.nd b2 qs) := by rw [← hx2, ← hy, d1, d1, e0]
          rw [fillT, fillT, Tm.nd.injEq, fillTs_map, fillTs_map] at e1
          have := congrArg List.length e1.2
          rw [List.length_map, List.length_map] at this
          exact hno ⟨e1.1, this⟩
        by_cases hab : a = b2
        · by_cases hll : ps.length = qs.length
          · subst hab
            have I3 := hI.down o1 o2 a1 a2 hcat hx2 hy hll
            have hps : ∀ u ∈ ps, fillT φ u = u := fun u hu => fill_id u fun s hs => (ix.b s (by rw [flatB]; exact flats_mem hu hs)).2
            have sz := sumP_zip (φ := φ) ps qs hps
            refine .inl ⟨(φ, l ++ ps.zip qs), I3, ?_, fun ag dn => ?_⟩
            · unfold meas
              simp only [m1, sumP_app]
              rw [parts]; omega
            · rw [heq, p_B, p_ci (by rw [decide_eq_false hne]; rfl), p_L, gl, p_opt, prD, p_TLt, p_un2]
              refine (bk (cx) _).trans ?_; try dsimp only
              refine (bk (cy) _).trans ?_; try dsimp only
              refine (bk (by') _).trans ?_; try dsimp only
              rw [p_B]
              rw [isB, p_j1, p_cf]
              try dsimp only
              rw [p_B, p_j2, p_cn (by rfl)]
              refine (bk (bx') _).trans ?_; try dsimp only
              rw [p_B, p_j1, p_cf]
              try dsimp only
              rw [p_B, p_j2, p_cn (by rfl)]
              refine (bk (bx') _).trans ?_; try dsimp only
              rw [p_B, p_j1, p_ci (by rfl), p_head, p_head, p_ne (p := a = a) rfl rfl (eqOk_str ao.1) (eqOk_str bo.1) (by simp), p_B, p_j1, p_cn (by simp), p_lenTm, p_lenTm, p_neI]
              try dsimp only
              rw [p_B, p_cn (by simp; omega)]
              refine (bk (c_inner h.toHI (n := m) (by omega) (.nd a ps)) _).trans ?_; try dsimp only
              refine (bk (c_inner h.toHI (n := m) (by omega) (.nd a qs)) _).trans ?_; try dsimp only
              simp only [kids]
              rw [p_zipL, zipD_map, p_if (by rw [List.length_map, List.length_zip]; exact sz_of (by omega))]
              refine (lc0_map (ps.zip qs) (fun pq => .tup [toD pq.1, toD pq.2]) prD fun q hq k => ?_).trans ?_
              · rw [p_TLt, p_un2]; rfl
              · rw [dl, p_L, p_if (by rw [List.length_map, List.length_map, List.length_zip]; exact sz_of (by omega)), ← List.map_append]
          · refine .inr (.inr ⟨_, fun ag dn => ?_, none, rfl, no (fun z => hll z.2)⟩)
            rw [heq, p_B, p_ci (by rw [decide_eq_false hne]; rfl), p_L, gl, p_opt, prD, p_TLt, p_un2]
            refine (bk (cx) _).trans ?_; try dsimp only
            refine (bk (cy) _).trans ?_; try dsimp only
            refine (bk (by') _).trans ?_; try dsimp only
            rw [p_B]
            rw [isB, p_j1, p_cf]
            try dsimp only
            rw [p_B, p_j2, p_cn (by rfl)]
            refine (bk (bx') _).trans ?_; try dsimp only
            rw [p_B, p_j1, p_cf]
            try dsimp only
            rw [p_B, p_j2, p_cn (by rfl)]
            refine (bk (bx') _).trans ?_; try dsimp only
            rw [p_B, p_j1, p_ci (by rfl), p_head, p_head, p_ne (p := a = b2) rfl rfl (eqOk_str ao.1) (eqOk_str bo.1) (by simp), p_B, p_j1, p_cn (by simp [hab]), p_lenTm, p_lenTm, p_neI]
            try dsimp only
            rw [p_B, p_ci (by simp; omega)]
            rfl
        · refine .inr (.inr ⟨_, fun ag dn => ?_, none, rfl, no (fun z => hab z.1)⟩)
          rw [heq, p_B, p_ci (by rw [decide_eq_false hne]; rfl), p_L, gl, p_opt, prD, p_TLt, p_un2]
          refine (bk (cx) _).trans ?_; try dsimp only
          refine (bk (cy) _).trans ?_; try dsimp only
          refine (bk (by') _).trans ?_; try dsimp only
          rw [p_B]
          rw [isB, p_j1, p_cf]
          try dsimp only
          rw [p_B, p_j2, p_cn (by rfl)]
          refine (bk (bx') _).trans ?_; try dsimp only
          rw [p_B, p_j1, p_cf]
          try dsimp only
          rw [p_B, p_j2, p_cn (by rfl)]
          refine (bk (bx') _).trans ?_; try dsimp only
          rw [p_B, p_j1, p_ci (by rfl), p_head, p_head, p_ne (p := a = b2) rfl rfl (eqOk_str ao.1) (eqOk_str bo.1) (by simp), p_B, p_j1, p_ci (by simp [hab])]
          try dsimp only
          rw [p_B, p_ct]
          rfl
end
end Pu
end

section
set_option Elab.async false
set_option linter.all false
set_option maxRecDepth 100000
set_option maxHeartbeats 1000000
namespace Pu
open En PySem Sh
/-! ### what is asked of a filling that makes alike -/
section
variable {T : Tab}
theorem MG.fi {one other : Tm} {φ : Fi} (h : MG one other φ) : FiOk (most one other) (blks one other).length φ := ⟨h.nd, h.len, h.ko, h.vo, h.vd⟩
theorem MG.both {one other : Tm} {φ : Fi} (h : MG one other φ) {t : Tm} (ht : t = one ∨ t = other) : dep (fillT φ t) ≤ most one other := by
  rcases ht with rfl | rfl
  · exact h.d1
  · rw [← h.un]; exact h.d1
theorem blanksA {so : Prop} {t : Tm} {B : List Str} : True := trivial
theorem c_law_blanks_ofA (h : Is1 T "_law_blanks_of" X__law_blanks_of) {B : List Str} (hB : B.length ≤ 10000) : ∀ (n : Nat) {t : Tm}, dep t ≤ n → okT t = true → arT 1000 t = true → (∀ s ∈ flatB t, s ∈ B) → callC T n "_law_blanks_of" [toD t] = .ok (.lst ((blanksOf t).map D.str), .non) := by
  intro n
  induction n with
  | zero => intro t hd; have := dep_pos t; omega
  | succ n ih =>
    intro t hd ht ha hb
    rw [h]
    unfold X__law_blanks_of
    cases t with
    | bl s => rfl
    | nd s ps =>
      rw [okT, Bool.and_eq_true] at ht
      rw [arT, Bool.and_eq_true, decide_eq_true_iff] at ha
      rw [toD, p_isS_T, p_B, p_cf, p_slT, cut_tail, p_seqT, toDs_map, p_if (by rw [List.length_map]; exact sz_of (by omega))]
      refine loop1_inv ps toD (fun acc : List Str => .lst (acc.map D.str)) (fun i acc => acc = addAll [] (flatBs (ps.take i))) [] (by simp [flatBs, addAll]) (fun i acc x hacc hx => ?_) (fun acc hacc => ?_)
      · have hxm := ix_mem hx
        have xo := okTs_mem.mp ht.2 x hxm
        have xa := arTs_mem.mp ha.2 x hxm
        have xd := dep_mem hxm
        rw [dep] at hd
        have t1 : ps.take (i + 1) = ps.take i ++ [x] := by rw [List.take_add_one, hx]; rfl
        have fsub : ∀ s ∈ flatBs (ps.take i), s ∈ flatBs ps := fun s hs => by
          have := flatBs_app (ps.take i) (ps.drop i)
          rw [List.take_append_drop] at this
          rw [this]; exact List.mem_append_left _ hs
        have hal : acc.length ≤ B.length := by
          rw [hacc]
          refine nodup_le _ _ (nodup_addAll _ _ List.nodup_nil) fun s hs => ?_
          rw [mem_addAll] at hs
          rcases hs with z | z
          · cases z
          · exact hb s (by rw [flatB]; exact fsub s z)
        have aok : ∀ s ∈ acc, PyData.strOk s = true := fun s hs => by
          rw [hacc, mem_addAll] at hs
          rcases hs with z | z
          · cases z
          · exact flats_ok ps ht.2 s (fsub s z)
        have xb : ∀ s ∈ flatB x, s ∈ B := fun s hs => hb s (by rw [flatB]; exact flats_mem hxm hs)
        refine ⟨acc ++ (blanksOf x).filter (fun y => !decide (y ∈ acc)), ?_, fun k => ?_⟩
        · rw [t1, flatBs_app, addAll_app, ← hacc]
          show _ = addAll acc (flatB x ++ [])
          rw [List.append_nil]
          exact addAll_filter acc (flatB x)
        · refine (bk (ih (t := x) (by omega) xo xa xb) _).trans ?_; try dsimp only
          have bl := blanksOf_le xb
          rw [p_seqL, p_if (by rw [List.length_map]; exact sz_of (by omega))]
          refine (lc0_if (blanksOf x) D.str (fun y => !decide (y ∈ acc)) D.str fun y hy k => ?_).trans ?_
          · rw [p_ninS aok (flat_ok x xo y (mem_blanksOf.mp hy)), p_B]
            by_cases hb : y ∈ acc
            · simp [hb]
            · simp [hb]
          · rw [p_addL (by
              have := List.length_filter_le (fun y => !decide (y ∈ acc)) (blanksOf x)
              rw [List.length_map, List.length_map]; exact sz_of (by omega)), List.map_append]
      · rw [hacc, List.take_length]; rfl
theorem c_walks (h : Is3 T "_law_walks" X__law_walks) (h1 : Is1 T "_law_blanks_of" X__law_blanks_of) (h2 : Is2 T "_law_filled" X__law_filled) {n : Nat} {one other : Tm} {φ : Fi} (o1 : okT one = true) (o2 : okT other = true) (a1 : arT 3 one = true) (a2 : arT 3 other = true) (hm : most one other ≤ 60) (hb : (blks one other).length ≤ 1000) (hn : most one other + 5 ≤ n) (g : MG one other φ) :
    callC T n "_law_walks" [toD one, toD other, .dic (fiD φ)] = .ok (.bl true, .non) := by
  obtain ⟨m, rfl⟩ : ∃ m, n = m + 1 := ⟨n - 1, by omega⟩
  rw [h]
  unfold X__law_walks
  have d1 : dep one ≤ most one other := dep_le_of orig1
  have d2 : dep other ≤ most one other := dep_le_of orig2
  have up := (ar_mono (j := 3) (k := 1000) (by omega)).1
  have f1 := c_law_filledA h2 (a := 3) (by omega) φ m one (by omega) a1
  have f2 := c_law_filledA h2 (a := 3) (by omega) φ m other (by omega) a2
  rw [← g.un] at f2
  have fo := fill_ok g.vo one o1
  have fd := g.d1
  refine (bk (c_law_blanks_ofA h1 (B := blks one other) (by omega) m (t := one) (by omega) o1 (up _ a1) blk1) _).trans ?_; try dsimp only
  refine (bk (c_law_blanks_ofA h1 (B := blks one other) (by omega) m (t := other) (by omega) o2 (up _ a2) blk2) _).trans ?_; try dsimp only
  have l1 := blanksOf_le (t := one) (B := blks one other) blk1
  have l2 := blanksOf_le (t := other) (B := blks one other) blk2
  rw [p_addL (by rw [List.length_map, List.length_map]; exact sz_of (by omega)), ← List.map_append]
  have inB : ∀ s, s ∈ blanksOf one ++ blanksOf other ↔ s ∈ blks one other := fun s => by
    unfold blks
    rw [List.mem_append, List.mem_append, mem_blanksOf, mem_blanksOf]
  have Bok : ∀ s ∈ blanksOf one ++ blanksOf other, PyData.strOk s = true := fun s hs => by
    rcases List.mem_append.mp hs with e | e
    · exact flat_ok one o1 s (mem_blanksOf.mp e)
    · exact flat_ok other o2 s (mem_blanksOf.mp e)
  rw [p_isD_D (strK_fi φ), p_B]
  refine (p_jc1 (.bl false) fun K => ?_).trans ?_
  · rw [p_cn (by rfl)]
    refine (bk (f1) _).trans ?_; try dsimp only
    refine (bk (f2) _).trans ?_; try dsimp only
    rw [p_neT fo fo (by omega) (by omega)]
    simp
  have gl := g.len
  rw [p_B, p_cf, p_D, p_keys (strK_fi φ), p_if (by unfold fiD; simp; exact sz_of (by omega))]
  have ek : (fiD φ).map (fun x => x.1) = φ.map fun p => .str p.1 := by unfold fiD; rw [List.map_map]; rfl
  rw [ek]
  refine (loop0_all φ (fun p => .str p.1) fun p hp k => ?_).trans rfl
  have kb := g.kb p hp
  rw [p_ninS Bok (g.ko p hp), p_B, p_cn (by rw [decide_eq_true ((inB _).mpr kb)]; rfl), p_idxD (look_of g.nd hp)]
  have vd := g.vd p hp
  refine (bk (c_law_blanks_ofA h1 (B := blks one other) (by omega) m (t := p.2) (by omega) (g.vo p hp) (up _ (g.va p hp)) (fun s hs => (g.vb p hp s hs).1)) _).trans ?_; try dsimp only
  have l3 := blanksOf_le (t := p.2) (B := blks one other) (fun s hs => (g.vb p hp s hs).1)
  rw [p_seqL, p_if (by rw [List.length_map]; exact sz_of (by omega))]
  refine loop0_all (blanksOf p.2) D.str fun s hs k => ?_
  have hs := mem_blanksOf.mp hs
  obtain ⟨v1, v2⟩ := g.vb p hp s hs
  rw [p_ninS Bok (flat_ok _ (g.vo p hp) s hs), p_B]
  refine (p_jc1 (.bl false) fun K => ?_).trans ?_
  · rw [p_cn (by rw [decide_eq_true ((inB _).mpr v1)]; rfl), p_innD, v2]; rfl
  · rw [p_B, p_cf]
theorem blks_comm {one other : Tm} {s : Str} : s ∈ blks one other ↔ s ∈ blks other one := by unfold blks; rw [List.mem_append, List.mem_append]; exact Or.comm
theorem most_comm (one other : Tm) : most one other = most other one := by unfold most orig; rw [List.length_append, List.length_append]; omega
theorem blks_len (one other : Tm) : (blks one other).length = (blks other one).length := by unfold blks; rw [List.length_append, List.length_append]; omega
structure H13 (T : Tab) : Prop where
  m : HM T
  wa : Is3 T "_law_walks" X__law_walks
  lb : Is1 T "_law_blanks_of" X__law_blanks_of
  lf : Is2 T "_law_filled" X__law_filled
theorem c_good13 (h : H13 T) (hg : Is2 T "_law_good" X__law_good_k13) {n : Nat} {one other : Tm} (o1 : okT one = true) (o2 : okT other = true) (a1 : arT 3 one = true) (a2 : arT 3 other = true) (hm : most one other ≤ 60) (hb : (blks one other).length ≤ 1000) (hn : most one other + 7 ≤ n) :
    callC T n "_law_good" [toD one, toD other] = .ok (.bl true, .non) := by
  obtain ⟨m, rfl⟩ : ∃ m, n = m + 1 := ⟨n - 1, by omega⟩
  rw [hg]
  unfold X__law_good_k13
  have mc := most_comm one other
  have bc := blks_len one other
  obtain ⟨r1, e1, s1⟩ := c_made_alike h.m (n := m) o1 o2 a1 a2 hm hb (by omega)
  obtain ⟨r2, e2, s2⟩ := c_made_alike h.m (n := m) o2 o1 a2 a1 (by omega) (by omega) (by omega)
  refine (bk (e1) _).trans ?_; try dsimp only
  refine (bk (e2) _).trans ?_; try dsimp only
  cases r1 with
  | none =>
    cases r2 with
    | none => rfl
    | some ψ => exact absurd s2.un.symm (s1 ψ)
  | some φ =>
    cases r2 with
    | none => exact absurd s1.un.symm (s2 φ)
    | some ψ =>
      have g1 : MG one other φ := s1
      have g2 : MG other one ψ := s2
      simp only [maD]
      rw [p_isN_D, p_B, p_j1, p_cf, p_isN_D]
      try dsimp only
      rw [p_B, p_cf]
      refine (bk (e1) _).trans ?_; try dsimp only
      simp only [maD]
      rw [p_neFi_self g1.fi (by omega), p_B, p_cf]
      refine (bk (c_walks h.wa h.lb h.lf (n := m) o1 o2 a1 a2 hm hb (by omega) g1) _).trans ?_; try dsimp only
      rw [p_B, p_j1, p_ct]
      refine (bk (c_walks h.wa h.lb h.lf (n := m) o2 o1 a2 a1 (by omega) (by omega) (by omega) g2) _).trans ?_; try dsimp only
end
mutual
theorem fit_ar {so : List So} {bs : List Str} (h1 : SoOk so) : ∀ t, fitT so bs t = true → arT 3 t = true
  | .bl s, h => rfl
  | .nd s ps, h => by
    rw [fitT, Bool.and_eq_true] at h
    rw [arT, Bool.and_eq_true, decide_eq_true_iff]
    exact ⟨h1.le _ (List.contains_iff_mem.mp h.1), fits_ar h1 ps h.2⟩
theorem fits_ar {so : List So} {bs : List Str} (h1 : SoOk so) : ∀ ts, fitTs so bs ts = true → arTs 3 ts = true
  | [], _ => rfl
  | t :: ts, h => by
    rw [fitTs, Bool.and_eq_true] at h
    rw [arTs, fit_ar h1 t h.1, fits_ar h1 ts h.2]; rfl
end
mutual
theorem fill_fit {so : List So} {bs : List Str} {φ : Fi} (h : ∀ p ∈ φ, fitT so bs p.2 = true) : ∀ t, fitT so bs t = true → fitT so bs (fillT φ t) = true
  | .bl s, ht => by
    rw [fillT]
    cases hl : look φ s with
    | none => exact ht
    | some u => exact h _ (look_mem hl)
  | .nd s ps, ht => by
    rw [fitT, Bool.and_eq_true] at ht
    rw [fillT, fitT, Bool.and_eq_true, fillTs_map, List.length_map, ← fillTs_map]
    exact ⟨ht.1, fills_fit h ps ht.2⟩
theorem fills_fit {so : List So} {bs : List Str} {φ : Fi} (h : ∀ p ∈ φ, fitT so bs p.2 = true) : ∀ ts, fitTs so bs ts = true → fitTs so bs (fillTs φ ts) = true
  | [], _ => rfl
  | t :: ts, ht => by
    rw [fitTs, Bool.and_eq_true] at ht
    rw [fillTs, fitTs, fill_fit h t ht.1, fills_fit h ts ht.2]; rfl
end
theorem repD_one (x : D) : ∀ n, repD n [x] = List.replicate n x
  | 0 => rfl
  | n + 1 => by rw [repD, repD_one x n]; rfl
theorem partss_rep (s : Str) : ∀ n, partss (List.replicate n (Tm.bl s)) = n
  | 0 => rfl
  | n + 1 => by rw [List.replicate_succ, partss, partss_rep s n, parts]; omega
theorem exR {A B : P (D × D)} {R : Tm → Prop} (h : A = B) (x : ∃ u, B = .ok (toD u, .non) ∧ R u) : ∃ u, A = .ok (toD u, .non) ∧ R u := h ▸ x
section
variable {T : Tab}
structure H2nd (T : Tab) : Prop where
  t : HT' T
  s : HS T
  lf : Is2 T "_law_filled" X__law_filled
  ls : Is1 T "_law_places" X__law_places
  lu : Is3 T "_law_put" X__law_put
  se : Is5 T "_law_second" X__law_second
theorem c_second (h : H2nd T) {n : Nat} {one : Tm} {so : List So} {bs : List Str} (c num : Int) (hn : 20 ≤ n) (so_ok : SoOk so) (bo : BsOk bs) (bl : 1 ≤ bs.length) (ok : TmOk so bs 6 6 one) :
    ∃ u, callC T n "_law_second" [toD one, .int c, .int num, .lst (so.map soD), .lst (bs.map D.str)] = .ok (toD u, .non) ∧ fitT so bs u = true ∧ parts u ≤ 12 := by
  obtain ⟨m, rfl⟩ : ∃ m, n = m + 1 := ⟨n - 1, by omega⟩
  rw [h.se]
  unfold X__law_second
  have op := ok.p
  have od := ok.d
  have ofit := ok.f
  have oo := fit_ok so_ok bo one ofit
  have ql := stream_len c 10
  have qn : stream c 10 ≠ [] := fun z => by rw [z] at ql; cases ql
  have uk := term_ok (nums := stream c 10) (bs := bs) (most := 6) so_ok (by omega) qn
  rw [ql] at uk
  have e1 := c_stream h.s (n := m) (by omega) c 10 (by omega)
  have e2 := c_term h.t (n := m) (stream c 10) so bs 6 (by omega) so_ok bo (by omega) qn (by omega)
  have pl0 : 0 < (places one).length := by rw [places_len]; exact parts_pos one
  have b0 := Int.emod_nonneg (num / 7) (b := ((places one).length : Int)) (by omega)
  have b1 := Int.emod_lt_of_pos (num / 7) (b := ((places one).length : Int)) (by omega)
  have hq : (places one).getD (num / 7 % (places one).length).toNat [] ∈ places one := by
    rw [List.getD_eq_getElem?_getD, List.getElem?_eq_getElem (show (num / 7 % (places one).length).toNat < (places one).length by omega)]
    exact List.getElem_mem _
  have bb0 := Int.emod_nonneg (num / 1001) (b := (bs.length : Int)) (by omega)
  have bb1 := Int.emod_lt_of_pos (num / 1001) (b := (bs.length : Int)) (by omega)
  have bm : bs.getD (num / 1001 % bs.length).toNat ⟨#[]⟩ ∈ bs := by
    rw [List.getD_eq_getElem?_getD, List.getElem?_eq_getElem (show (num / 1001 % bs.length).toNat < bs.length by omega)]; exact List.getElem_mem _
  refine exR (bk e1 _) ?_
  try dsimp only
  refine exR (bk e2 _) ?_
  try dsimp only
  refine exR (bk (c_law_places h.ls m one (by omega) (by omega)) _) ?_
  try dsimp only
  rw [p_div dv7, p_lenL, List.length_map, p_mod (by omega), p_idxL (atI_map (d := []) b0 b1), p_div (dvS (by decide) (by decide)), p_lenL, List.length_map, p_mod (by omega), p_idxL (atI_map (d := ⟨#[]⟩) bb0 bb1), p_mod z4, p_eqI, p_B]
  generalize (places one).getD (num / 7 % (places one).length).toNat [] = q at *
  generalize bs.getD (num / 1001 % bs.length).toNat ⟨#[]⟩ = b at *
  obtain ⟨v, hv⟩ := (places_sub one q).mp hq
  have qd := sub_dep hv
  have vpos := dep_pos v
  have vp := parts_pos v
  have bfit : fitT so bs (.bl b) = true := List.contains_iff_mem.mpr bm
  by_cases n1 : num % 4 = 1
  · rw [p_ci (decide_eq_true n1)]
    have ql2 := stream_len c 2
    have qn2 : stream c 2 ≠ [] := fun z => by rw [z] at ql2; cases ql2
    have uk2 := term_ok (nums := stream c 2) (bs := bs) (most := 4) so_ok (by omega) qn2
    rw [ql2] at uk2
    refine exR (bk (c_stream h.s (n := m) (by omega) c 2 (by omega)) _) ?_
    try dsimp only
    refine exR (bk (c_term h.t (n := m) (stream c 2) so bs 4 (by omega) so_ok bo (by omega) qn2 (by omega)) _) ?_
    try dsimp only
    rw [p_S]
    generalize term (stream c 2) so bs 4 = w at *
    have hall : ∀ p ∈ [(b, w)], fitT so bs p.2 = true := fun p hp => by rw [List.mem_singleton.mp hp]; exact uk2.f
    have hpl : ∀ p ∈ [(b, w)], parts p.2 ≤ 2 := fun p hp => by rw [List.mem_singleton.mp hp]; exact uk2.p
    have fp := fill_parts (by omega) hpl one
    refine exR (bk (c_law_filled h.lf [(b, w)] m one (by omega) (by omega)) _) ?_
    exact ⟨_, rfl, fill_fit hall one ofit, by omega⟩
  · rw [p_cn (decide_eq_false n1), p_mod z4, p_eqI, p_B]
    by_cases n2 : num % 4 = 2
    · rw [p_ci (decide_eq_true n2)]
      have pp := put_parts (u := .bl b) hv
      refine exR (bk (c_law_put h.lu m (u := .bl b) (by omega) hv (by omega)) _) ?_
      refine ⟨_, rfl, put_fit hv ofit bfit, ?_⟩
      rw [parts] at pp; omega
    · rw [p_cn (decide_eq_false n2), p_mod z4, p_eqI, p_B]
      by_cases n3 : num % 4 = 3
      · rw [p_ci (decide_eq_true n3)]
        obtain ⟨l, z, hl⟩ : ∃ l z, so = l ++ [z] := ⟨so.dropLast, so.getLast so_ok.ne, (List.dropLast_concat_getLast so_ok.ne).symm⟩
        have zm : z ∈ so := by rw [hl]; simp
        have z3 := so_ok.le z zm
        have lst : L2.atI (so.map soD) (-1) = some (soD z) := by
          rw [hl, List.map_append]
          exact L2.atI_last _ _
        have mulT : ∀ {K : D → P (D × D)}, oP (op2 .mul (.tup [.str b]) (.int (z.2 : Int))) K = K (.tup (List.replicate z.2 (.str b))) := fun {K} => by
          have : op2 .mul (.tup [.str b]) (.int (z.2 : Int)) = some (.sh, .tup (repD (z.2 : Int).toNat [.str b])) := by
            show (if _ then _ else _) = _
            rw [if_pos]
            simp; omega
          rw [this, repD_one]; rfl
        rw [p_neg, p_idxL lst, soD, p_idx0T, p_neg, p_idxL lst, soD, p_idx1T, mulT, p_addT (by simp; exact sz_of (by omega))]
        have et : D.tup ([D.str z.1] ++ List.replicate z.2 (D.str b)) = toD (.nd z.1 (List.replicate z.2 (.bl b))) := by
          rw [toD, toDs_map, List.map_replicate]; rfl
        rw [et]
        have nfit : fitT so bs (.nd z.1 (List.replicate z.2 (.bl b))) = true := by
          rw [fitT, List.length_replicate, Bool.and_eq_true]
          exact ⟨List.contains_iff_mem.mpr zm, fitTs_mem.mpr fun t ht => by rw [List.eq_of_mem_replicate ht]; exact bfit⟩
        have pp := put_parts (u := .nd z.1 (List.replicate z.2 (.bl b))) hv
        rw [parts, partss_rep] at pp
        refine exR (bk (c_law_put h.lu m (u := .nd z.1 (List.replicate z.2 (.bl b))) (by omega) hv (by omega)) _) ?_
        exact ⟨_, rfl, put_fit hv ofit nfit, by omega⟩
      · rw [p_cn (decide_eq_false n3)]
        exact ⟨_, rfl, uk.f, by have := uk.p; omega⟩
theorem nds_ok {t : Tm} {m : Nat} (h : parts t ≤ m) : (nds t).length ≤ m ∧ (flatB t).length ≤ m := ⟨Nat.le_trans (nds_len t) h, Nat.le_trans (flat_len t) h⟩
theorem most_le {one other : Tm} {a b : Nat} (h1 : parts one ≤ a) (h2 : parts other ≤ b) : most one other ≤ a + b + 1 ∧ (blks one other).length ≤ a + b := by
  have := nds_ok h1
  have := nds_ok h2
  unfold most orig blks
  rw [List.length_append, List.length_append]
  constructor <;> omega
structure L13 (T : Tab) : Prop where
  g : HG T
  n : H2nd T
  a : H13 T
  go : Is2 T "_law_good" X__law_good_k13
theorem law13 (h : L13 T) {n : Nat} (hn : 80 ≤ n) (ns : List Int) : X_law_k13 (callC T n) (.lst (ns.map D.int)) = .ok (.bl true, .non) := by
  unfold X_law_k13
  have c0 := c_cellF h.g.cell (n := n) (by omega) ns 0 (by decide)
  have c1 := c_cellF h.g.cell (n := n) (by omega) ns 1 (by decide)
  have e0 := c_sorts h.g.words h.g.sorts (n := n) (by omega) (cellF ns 0)
  have e1 := c_blanks h.g.blanks (n := n) (by omega) (cellF ns 1)
  have so_ok := sorts_ok (cellF ns 0)
  have bl := blanks_len (cellF ns 1)
  have bo : BsOk (blanksL (cellF ns 1)) := ⟨by omega, blanks_ok _⟩
  refine (bk (c0) _).trans ?_; try dsimp only
  refine (bk (e0) _).trans ?_; try dsimp only
  refine (bk (c1) _).trans ?_; try dsimp only
  refine (bk (e1) _).trans ?_; try dsimp only
  generalize sorts (cellF ns 0) = so at *
  generalize blanksL (cellF ns 1) = bs at *
  rw [p_chars, chars_spare, p_if (by rw [List.length_map]; exact sz_of (by decide))]
  refine (lc0_if spares D.str (fun x => !decide (x ∈ bs)) D.str fun x hx k => ?_).trans ?_
  · rw [p_ninS bo.ok (spares_ok x hx), p_B]
    by_cases hb : x ∈ bs
    · simp [hb]
    · simp [hb]
  have sp := spare_ne (bs := bs) bl.2 spares_nd (by decide)
  have sp2 : ∀ s ∈ spares.filter (fun x => !decide (x ∈ bs)), PyData.strOk s = true ∧ s ∉ bs := fun s hs => ⟨spares_ok s (List.mem_filter.mp hs).1, by have := (List.mem_filter.mp hs).2; simpa using this⟩
  cases hsp : spares.filter (fun x => !decide (x ∈ bs)) with
  | nil => exact absurd hsp sp
  | cons sx sr =>
    rw [hsp] at sp2
    obtain ⟨sok, snb⟩ := sp2 sx (.head _)
    have cl : (cut ns none (some 20)).length ≤ 20 := by rw [cut_take _ _ (by decide)]; simp; omega
    rw [List.map_cons, p_idx0L, p_slL, cut_map, p_addL (by simp; exact sz_of (by omega)), p_addL (by simp; exact sz_of (by omega))]
    rw [show [D.int 1, D.int 3, D.int 5] ++ List.map D.int (cut ns none (some 20)) ++ [D.int 7, D.int 9] = ([1, 3, 5] ++ cut ns none (some 20) ++ [7, 9]).map D.int by simp]
    generalize hcs : [1, 3, 5] ++ cut ns none (some 20) ++ [7, 9] = cs
    have csl : 5 ≤ cs.length ∧ cs.length ≤ 30 := by rw [← hcs]; simp; omega
    rw [p_lenL, List.length_map, p_subI, p_rng (by omega) (by omega), p_if (by rw [rangeD_len]; exact sz_of (by omega)), rangeD0]
    refine (loop0_all (List.range ((cs.length : Int) - 2).toNat) (fun i : Nat => .int i) fun x hx k => ?_).trans rfl
    have hx : x < ((cs.length : Int) - 2).toNat := by simpa using hx
    rw [p_addI, p_idxL (atI_map (d := 0) (by omega) (by omega)), p_mul (mu1 _), p_mod z2147483647, p_idxL (atI_map (d := 0) (by omega) (by omega))]
    generalize cs.getD (Int.toNat x) 0 = ca
    generalize cs.getD (Int.toNat ((x : Int) + 2)) 0 * 1000000007 % 2147483647 = num
    have ql := stream_len ca 6
    have qn : stream ca 6 ≠ [] := fun z => by rw [z] at ql; cases ql
    have uk := term_ok (nums := stream ca 6) (bs := bs) (most := 6) so_ok (by omega) qn
    rw [ql] at uk
    refine (bk (c_stream h.n.s (n := n) (by omega) ca 6 (by omega)) _).trans ?_; try dsimp only
    refine (bk (c_term h.n.t (n := n) (stream ca 6) so bs 6 (by omega) so_ok bo (by omega) qn (by omega)) _).trans ?_; try dsimp only
    generalize term (stream ca 6) so bs 6 = one at *
    rw [p_addI, p_idxL (atI_map (d := 0) (by omega) (by omega))]
    obtain ⟨u, eu, uf, up⟩ := c_second h.n (n := n) (cs.getD (Int.toNat ((x : Int) + 1)) 0) num (by omega) so_ok bo bl.1 uk
    refine (bk (eu) _).trans ?_; try dsimp only
    have oo := fit_ok so_ok bo one uk.f
    have oa := fit_ar so_ok one uk.f
    have uo := fit_ok so_ok bo u uf
    have ua := fit_ar so_ok u uf
    obtain ⟨m1, m2⟩ := most_le uk.p up
    have spo : okT (.bl sx) = true := sok
    have sp1 : parts (.bl sx) ≤ 1 := by simp [parts]
    obtain ⟨m3, m4⟩ := most_le sp1 up
    obtain ⟨m5, m6⟩ := most_le uk.p uk.p
    refine (bk (c_good13 h.a h.go (n := n) oo uo oa ua (by omega) (by omega) (by omega)) _).trans ?_; try dsimp only
    rw [p_B, p_j1, p_cn (by rfl)]
    refine (bk (c_good13 h.a h.go (n := n) (one := .bl sx) spo uo rfl ua (by omega) (by omega) (by omega)) _).trans ?_; try dsimp only
    rw [p_B]
    try dsimp only
    rw [p_B, p_cn (by rfl)]
    obtain ⟨r1, er1, s1⟩ := c_made_alike h.a.m (n := n) oo oo oa oa (by omega) (by omega) (by omega)
    obtain ⟨r2, er2, s2⟩ := c_made_alike h.a.m (n := n) (one := .bl sx) (other := u) spo uo rfl ua (by omega) (by omega) (by omega)
    refine (bk (er1) _).trans ?_; try dsimp only
    cases r1 with
    | none => exact absurd rfl (s1 [])
    | some φ =>
      simp only [maD]
      rw [p_isN_D, p_B, p_j1, p_cf]
      refine (bk (er2) _).trans ?_; try dsimp only
      cases r2 with
      | none =>
        refine absurd ?_ (s2 [(sx, u)])
        rw [fillT, show look [(sx, u)] sx = some u by simp [look]]
        refine (fill_id u fun s hs => ?_).symm
        have : s ≠ sx := fun e => snb (e ▸ flat_fit u uf s hs)
        simp [look, Ne.symm this]
      | some ψ =>
        simp only [maD]
        rw [p_isN_D]
        try dsimp only
        rw [p_B, p_cf]
end
end Pu
end

section
set_option Elab.async false
set_option linter.all false
set_option maxRecDepth 100000
set_option maxHeartbeats 1000000
namespace Pu
open En PySem Sh
/-! ### loops whose answer is told by what it keeps -/
section
variable {β : Type}
theorem loopC_G {f : List D → D → (List D → P β) → P β} {α σ : Type} {X : α → D} {A : σ → List D} {I : Nat → σ → Prop} {G : P β → Prop} {K : List D → P β} : ∀ (xs : List α) (i : Nat) (s : σ), I i s → (∀ j s x, I (i + j) s → xs[j]? = some x → (∃ s', I (i + j + 1) s' ∧ ∀ k, f (A s) (X x) k = k (A s')) ∨ ∃ r, (∀ k, f (A s) (X x) k = r) ∧ G r) → (∀ s, I (i + xs.length) s → G (K (A s))) → G (loopC f (xs.map X) (A s) K) := by
  intro xs
  induction xs with
  | nil => intro i s hs _ hf; exact hf s hs
  | cons x xs ih =>
    intro i s hs h hf
    rw [List.map_cons, loopC]
    rcases h 0 s x hs rfl with ⟨s', hs', e⟩ | ⟨r, e, g⟩
    · rw [e]
      exact ih (i + 1) s' hs' (fun j s y q z => by
        rcases h (j + 1) s y (by rw [show i + (j + 1) = i + 1 + j by omega]; exact q) z with ⟨s2, a, b⟩ | b
        · exact .inl ⟨s2, by rw [show i + 1 + j + 1 = i + (j + 1) + 1 by omega]; exact a, b⟩
        · exact .inr b) (fun s q => hf s (by rw [List.length_cons, show i + (xs.length + 1) = i + 1 + xs.length by omega]; exact q))
    · rw [e]; exact g
theorem loop0_G {f : D → P β → P β} {α : Type} (xs : List α) (X : α → D) (I : Nat → Prop) {G : P β → Prop} {K : P β} (hs : I 0) (h : ∀ i x, I i → xs[i]? = some x → (I (i + 1) ∧ ∀ k, f (X x) k = k) ∨ ∃ r, (∀ k, f (X x) k = r) ∧ G r) (hf : I xs.length → G K) : G (loop0 f (xs.map X) K) :=
  loopC_G (σ := Unit) (A := fun _ => []) (I := fun i _ => I i) xs 0 () hs (fun j _ x q e => by
    rw [Nat.zero_add] at q ⊢
    rcases h j x q e with ⟨a, b⟩ | ⟨r, a, b⟩
    · exact .inl ⟨(), a, fun k => b _⟩
    · exact .inr ⟨r, fun k => a _, b⟩) (fun _ q => hf (by rw [Nat.zero_add] at q; exact q))
theorem loop1_G {f : D → D → (D → P β) → P β} {α σ : Type} (xs : List α) (X : α → D) (A : σ → D) (I : Nat → σ → Prop) {G : P β → Prop} (s : σ) {K : D → P β} (hs : I 0 s) (h : ∀ i s x, I i s → xs[i]? = some x → (∃ s', I (i + 1) s' ∧ ∀ k, f (A s) (X x) k = k (A s')) ∨ ∃ r, (∀ k, f (A s) (X x) k = r) ∧ G r) (hf : ∀ s, I xs.length s → G (K (A s))) : G (loop1 f (xs.map X) (A s) K) :=
  loopC_G (A := fun s => [A s]) (I := I) xs 0 s hs (fun j s x q e => by
    rw [Nat.zero_add] at q ⊢
    rcases h j s x q e with ⟨s', a, b⟩ | ⟨r, a, b⟩
    · exact .inl ⟨s', a, fun k => b _⟩
    · exact .inr ⟨r, fun k => a _, b⟩) (fun s q => hf s (by rw [Nat.zero_add] at q; exact q))
theorem loop2_G {f : D → D → D → (D → D → P β) → P β} {α σ : Type} (xs : List α) (X : α → D) (A B : σ → D) (I : Nat → σ → Prop) {G : P β → Prop} (s : σ) {K : D → D → P β} (hs : I 0 s) (h : ∀ i s x, I i s → xs[i]? = some x → (∃ s', I (i + 1) s' ∧ ∀ k, f (A s) (B s) (X x) k = k (A s') (B s')) ∨ ∃ r, (∀ k, f (A s) (B s) (X x) k = r) ∧ G r) (hf : ∀ s, I xs.length s → G (K (A s) (B s))) : G (loop2 f (xs.map X) (A s) (B s) K) :=
  loopC_G (A := fun s => [A s, B s]) (I := I) xs 0 s hs (fun j s x q e => by
    rw [Nat.zero_add] at q ⊢
    rcases h j s x q e with ⟨s', a, b⟩ | ⟨r, a, b⟩
    · exact .inl ⟨s', a, fun k => b _⟩
    · exact .inr ⟨r, fun k => a _, b⟩) (fun s q => hf s (by rw [Nat.zero_add] at q; exact q))
theorem loop3_G {f : D → D → D → D → (D → D → D → P β) → P β} {α σ : Type} (xs : List α) (X : α → D) (A B E : σ → D) (I : Nat → σ → Prop) {G : P β → Prop} (s : σ) {K : D → D → D → P β} (hs : I 0 s) (h : ∀ i s x, I i s → xs[i]? = some x → (∃ s', I (i + 1) s' ∧ ∀ k, f (A s) (B s) (E s) (X x) k = k (A s') (B s') (E s')) ∨ ∃ r, (∀ k, f (A s) (B s) (E s) (X x) k = r) ∧ G r) (hf : ∀ s, I xs.length s → G (K (A s) (B s) (E s))) : G (loop3 f (xs.map X) (A s) (B s) (E s) K) :=
  loopC_G (A := fun s => [A s, B s, E s]) (I := I) xs 0 s hs (fun j s x q e => by
    rw [Nat.zero_add] at q ⊢
    rcases h j s x q e with ⟨s', a, b⟩ | ⟨r, a, b⟩
    · exact .inl ⟨s', a, fun k => b _⟩
    · exact .inr ⟨r, fun k => a _, b⟩) (fun s q => hf s (by rw [Nat.zero_add] at q; exact q))
/-- a goal kept along an equation -/
theorem G_of {γ : Type} {G : γ → Prop} {A B : γ} (h : A = B) (g : G B) : G A := h ▸ g
end
mutual
theorem pure_tm : ∀ t, (toD t).pure = true
  | .bl _ => rfl
  | .nd _ ps => by rw [toD, D.pure, D.pures, pures_tm ps]; rfl
theorem pures_tm : ∀ ts, D.pures (toDs ts) = true
  | [] => rfl
  | t :: ts => by rw [toDs, D.pures, pure_tm t, pures_tm ts]; rfl
end
mutual
theorem dep_fill {φ : Fi} : ∀ t, dep t ≤ dep (fillT φ t)
  | .bl s => by have := dep_pos (fillT φ (.bl s)); rw [dep]; omega
  | .nd s ps => by rw [fillT, dep, dep]; have := deps_fill (φ := φ) ps; omega
theorem deps_fill {φ : Fi} : ∀ ts, deps ts ≤ deps (fillTs φ ts)
  | [] => by simp [deps]
  | t :: ts => by rw [fillTs, deps, deps]; have := dep_fill (φ := φ) t; have := deps_fill (φ := φ) ts; omega
end
/-! ### blanks led on -/
def pos : Fi → Str → Nat
  | [], _ => 0
  | (k, _) :: r, x => if k = x then 0 else pos r x + 1
theorem pos_some : ∀ {ψ : Fi} {s : Str} {v : Tm}, look ψ s = some v → ψ[pos ψ s]? = some (s, v)
  | (k, w) :: r, s, v, h => by
    rw [look] at h
    rw [pos]
    by_cases e : k = s
    · rw [if_pos e] at h ⊢
      cases h; rw [e]; rfl
    · rw [if_neg e] at h ⊢
      rw [List.getElem?_cons_succ]; exact pos_some h
theorem pos_none : ∀ {ψ : Fi} {s : Str}, look ψ s = none → pos ψ s = ψ.length
  | [], s, _ => rfl
  | (k, w) :: r, s, h => by
    rw [look] at h
    rw [pos]
    by_cases e : k = s
    · rw [if_pos e] at h; cases h
    · rw [if_neg e] at h ⊢
      rw [pos_none h]; rfl
theorem pos_app : ∀ (ψ χ : Fi) (s : Str), pos ψ s ≤ pos (ψ ++ χ) s
  | [], χ, s => Nat.zero_le _
  | (k, w) :: r, χ, s => by
    rw [List.cons_append, pos, pos]
    by_cases e : k = s
    · rw [if_pos e]; omega
    · rw [if_neg e, if_neg e]; have := pos_app r χ s; omega
theorem pos_new : ∀ {ψ : Fi} {s k : Str} {v : Tm}, look ψ s = none → s ≠ k → pos (ψ ++ [(k, v)]) s = ψ.length + 1
  | [], s, k, v, _, h => by simp [pos, Ne.symm h]
  | (k', w) :: r, s, k, v, h, hs => by
    rw [look] at h
    rw [List.cons_append, pos]
    by_cases e : k' = s
    · rw [if_pos e] at h; cases h
    · rw [if_neg e] at h ⊢
      rw [pos_new h hs]; rfl
structure Lk (ψ φ : Fi) : Prop where
  keys : fkeys ψ = fkeys φ
  val : ∀ p ∈ ψ, fillT φ (.bl p.1) = fillT φ p.2
  ok : ∀ p ∈ ψ, okT p.2 = true
  ar : ∀ p ∈ ψ, arT 3 p.2 = true
  fw : ∀ i k s, ψ[i]? = some (k, .bl s) → i < pos ψ s
theorem Lk.none {ψ φ : Fi} (h : Lk ψ φ) {s : Str} : look ψ s = none ↔ look φ s = none := by rw [look_none, look_none, h.keys]
theorem Lk.len {ψ φ : Fi} (h : Lk ψ φ) : ψ.length = φ.length := by have := congrArg List.length h.keys; unfold fkeys at this; simpa using this
theorem lk0 : Lk [] [] := ⟨rfl, (fun _ z => nomatch z), (fun _ z => nomatch z), (fun _ z => nomatch z), fun i k s z => by simp at z⟩
/-- what a term is led on to -/
structure Rst (φ : Fi) (t r : Tm) : Prop where
  e : fillT φ r = fillT φ t
  ok : okT r = true
  ar : arT 3 r = true
  fr : ∀ s, r = .bl s → look φ s = none
section
variable {T : Tab}
theorem c_rest (h : Is2 T "_law_rest" X__law_rest) {n : Nat} (hn : 1 ≤ n) {ψ φ : Fi} (L : Lk ψ φ) (hl : ψ.length ≤ 10000) {t : Tm} (ho : okT t = true) (ha : arT 3 t = true) :
    ∃ r, callC T n "_law_rest" [toD t, .dic (fiD ψ)] = .ok (toD r, .non) ∧ Rst φ t r := by
  obtain ⟨m, rfl⟩ : ∃ m, n = m + 1 := ⟨n - 1, by omega⟩
  rw [h]
  unfold X__law_rest
  refine wh1_G toD (fun r => fillT φ r = fillT φ t ∧ okT r = true ∧ arT 3 r = true) (fun r => match r with | .bl s => ψ.length - pos ψ s | .nd _ _ => 0) (G := fun p : P (D × D) => ∃ r, p = .ok (toD r, D.non) ∧ Rst φ t r) (fun r hI => ?_) fuel t ⟨rfl, ho, ha⟩ (by
    have := fuel_ge
    have h4 : 10001 < 10 ^ 100 := by decide
    cases t <;> simp only [] <;> omega)
  obtain ⟨e, o, a⟩ := hI
  cases r with
  | nd s ps =>
    refine .inr (.inl ⟨fun ag dn => ?_, _, rfl, e, o, a, fun s z => nomatch z⟩)
    rw [toD, p_isS_T, p_B, p_j1, p_cf]
    try dsimp only
    rw [p_B, p_cf]
  | bl s =>
    cases hs : look ψ s with
    | none =>
      refine .inr (.inl ⟨fun ag dn => ?_, _, rfl, e, o, a, fun s' z => by cases z; exact L.none.mp hs⟩)
      rw [toD, p_isS_S, p_B, p_j1, p_ct, p_innD, hs]
      try dsimp only
      rw [p_B, p_cn (by rfl)]
    | some v =>
      have hm := look_mem hs
      refine .inl ⟨v, ⟨by rw [← e]; exact (L.val _ hm).symm, L.ok _ hm, L.ar _ hm⟩, ?_, fun ag dn => ?_⟩
      · have h1 := pos_some hs
        have h2 := ix_lt h1
        cases v with
        | nd _ _ => simp only []; omega
        | bl s' => have := L.fw _ _ _ h1; simp only []; omega
      · rw [toD, p_isS_S, p_B, p_j1, p_ct, p_innD, hs]
        try dsimp only
        rw [p_B, p_ci (by rfl), p_idxD hs]
theorem c_stands (h : Is3 T "_law_stands" X__law_stands) (hr : Is2 T "_law_rest" X__law_rest) {ψ φ : Fi} (L : Lk ψ φ) (hl : ψ.length ≤ 10000) {b : Str} (bo : PyData.strOk b = true) : ∀ (n : Nat) (t : Tm), dep (fillT φ t) + 1 ≤ n → okT t = true → arT 3 t = true →
    callC T n "_law_stands" [.str b, toD t, .dic (fiD ψ)] = .ok (.bl (decide (b ∈ flatB (fillT φ t))), .non) := by
  intro n
  induction n with
  | zero => intro t hd; omega
  | succ n ih =>
    intro t hd ho ha
    rw [h]
    unfold X__law_stands
    have dp := dep_pos (fillT φ t)
    obtain ⟨r, er, R⟩ := c_rest hr (n := n) (by omega) L hl ho ha
    refine (bk (er) _).trans ?_; try dsimp only
    rw [← R.e]
    have Ro := R.ok
    have Ra := R.ar
    cases r with
    | bl s =>
      have hs := R.fr s rfl
      rw [show toD (.bl s) = .str s from rfl, p_isS_S, p_B, p_ct, show D.str s = toD (.bl s) from rfl, show D.str b = toD (.bl b) from rfl, p_eqT (t := .bl s) (u := .bl b) Ro bo (by simp [dep]) (by simp [dep])]
      rw [fillT, hs]
      simp only [Option.getD_none, flatB, List.mem_singleton, Tm.bl.injEq]
      rw [show decide (s = b) = decide (b = s) from decide_eq_decide.mpr ⟨Eq.symm, Eq.symm⟩]
    | nd s ps =>
      rw [okT, Bool.and_eq_true] at Ro
      rw [arT, Bool.and_eq_true, decide_eq_true_iff] at Ra
      have Re := R.e
      rw [fillT] at Re
      rw [← Re, dep] at hd
      rw [toD, p_isS_T, p_B, p_cf, p_slT, cut_tail, p_seqT, toDs_map, p_if (by rw [List.length_map]; exact sz_of (by omega))]
      refine loop0_ret ps toD (fun i => b ∉ flatBs (fillTs φ (ps.take i))) (by simp [fillTs, flatBs]) (fun i x hI hx => ?_) (fun hI => ?_)
      · have hxm := ix_mem hx
        have dx : dep (fillT φ x) ≤ deps (fillTs φ ps) := by rw [fillTs_map]; exact dep_mem (List.mem_map.mpr ⟨x, hxm, rfl⟩)
        have ex := ih x (by omega) (okTs_mem.mp Ro.2 x hxm) (arTs_mem.mp Ra.2 x hxm)
        by_cases hb : b ∈ flatB (fillT φ x)
        · refine .inr fun k => ?_
          refine (bk (ex) _).trans ?_; try dsimp only
          rw [p_B, p_ci (decide_eq_true hb)]
          have : b ∈ flatB (fillT φ (.nd s ps)) := by
            rw [fillT, flatB, fillTs_map]
            exact flats_mem (List.mem_map.mpr ⟨x, hxm, rfl⟩) hb
          rw [decide_eq_true this]
        · refine .inl ⟨?_, fun k => ?_⟩
          · have t1 : ps.take (i + 1) = ps.take i ++ [x] := by rw [List.take_add_one, hx]; rfl
            rw [t1, fillTs_map, List.map_append, flatBs_app, ← fillTs_map]
            intro z
            rcases List.mem_append.mp z with z | z
            · exact hI z
            · simp only [List.map_cons, List.map_nil, flatBs, List.append_nil] at z; exact hb z
          · refine (bk (ex) _).trans ?_; try dsimp only
            rw [p_B, p_cn (decide_eq_false hb)]
      · rw [List.take_length] at hI
        rw [fillT, flatB, decide_eq_false hI]
end
end Pu
end

section
set_option Elab.async false
set_option linter.all false
set_option maxRecDepth 100000
set_option maxHeartbeats 1000000
namespace Pu
open En PySem Sh
/-! ### going through two terms with blanks led on -/
def Ext (φ φ' : Fi) : Prop := ∀ t u p, sub (fillT φ t) p = some (fillT φ u) → sub (fillT φ' t) p = some (fillT φ' u)
theorem Ext.rfl {φ : Fi} : Ext φ φ := fun _ _ _ h => h
theorem Ext.trans {a b c : Fi} (h : Ext a b) (g : Ext b c) : Ext a c := fun t u p q => g t u p (h t u p q)
section
variable {one other : Tm} {φ : Fi} {left : Prs}
theorem Inv.downL (h : Inv one other φ left) {x y : Tm} {l : Prs} {a : Str} {ps qs : List Tm} (hl : left = l ++ [(x, y)]) (rx : Rst φ x (.nd a ps)) (ry : Rst φ y (.nd a qs)) (he : ps.length = qs.length) (hd : dep (fillT φ x) ≤ most one other ∧ dep (fillT φ y) ≤ most one other) : Inv one other φ (l ++ (ps.zip qs).reverse) := by
  have hat : left[l.length]? = some (x, y) := by rw [hl]; simp
  have hp := h.st _ x y hat
  have ex := rx.e
  have ey := ry.e
  rw [fillT] at ex ey
  have ixa := rx.ar
  rw [arT, Bool.and_eq_true, decide_eq_true_iff] at ixa
  have iya := ry.ar
  rw [arT, Bool.and_eq_true, decide_eq_true_iff] at iya
  have ixo := rx.ok
  rw [okT, Bool.and_eq_true] at ixo
  have iyo := ry.ok
  rw [okT, Bool.and_eq_true] at iyo
  have hzl : (ps.zip qs).length = ps.length := by rw [List.length_zip]; omega
  have hz : ∀ k u v, (ps.zip qs)[k]? = some (u, v) → ps[k]? = some u ∧ qs[k]? = some v := fun k u v e => by
    have hk := ix_lt e
    rw [List.length_zip] at hk
    rw [List.getElem?_eq_getElem (by rw [List.length_zip]; omega), List.getElem_zip] at e
    cases e
    exact ⟨List.getElem?_eq_getElem (by omega), List.getElem?_eq_getElem (by omega)⟩
  have hr : ∀ k u v, (ps.zip qs).reverse[k]? = some (u, v) → ∃ j, ps[j]? = some u ∧ qs[j]? = some v ∧ k < 3 := fun k u v e => by
    have hk := ix_lt e
    rw [List.length_reverse] at hk
    rw [List.getElem?_reverse hk] at e
    obtain ⟨a, b⟩ := hz _ u v e
    exact ⟨_, a, b, by omega⟩
  refine { h with st := ?_, so := ?_, D := ?_, E := ?_ }
  · intro j u v e
    rcases Nat.lt_or_ge j l.length with hj | hj
    · rw [List.getElem?_append_left hj] at e
      exact h.st j u v (by rw [hl, List.getElem?_append_left hj]; exact e)
    · rw [List.getElem?_append_right hj] at e
      obtain ⟨i, e1, e2, hk⟩ := hr _ u v e
      obtain ⟨p, hp1, r⟩ := hp
      refine ⟨p ++ [i], by rw [List.length_append]; simp; omega, ?_⟩
      have s1 : sub (.nd a (fillTs φ ps)) [i] = some (fillT φ u) := by rw [sub, fillTs_map, List.getElem?_map, e1]; exact sub_nil _
      have s2 : sub (.nd a (fillTs φ qs)) [i] = some (fillT φ v) := by rw [sub, fillTs_map, List.getElem?_map, e2]; exact sub_nil _
      rw [← ex, ← ey] at r
      rcases r with ⟨r1, r2⟩ | ⟨r1, r2⟩
      · exact .inl ⟨by rw [sub_app r1]; exact s1, by rw [sub_app r2]; exact s2⟩
      · exact .inr ⟨by rw [sub_app r1]; exact s1, by rw [sub_app r2]; exact s2⟩
  · intro q hq
    rcases List.mem_append.mp hq with e | e
    · exact h.so q (by rw [hl]; exact List.mem_append_left _ e)
    · obtain ⟨u, v⟩ := q
      have h1 := List.of_mem_zip (List.mem_reverse.mp e)
      have dx := dep_fill (φ := φ) (.nd a ps)
      have dy := dep_fill (φ := φ) (.nd a qs)
      rw [rx.e, dep] at dx
      rw [ry.e, dep] at dy
      have := dep_mem h1.1
      have := dep_mem h1.2
      exact ⟨⟨okTs_mem.mp ixo.2 u h1.1, okTs_mem.mp iyo.2 v h1.2⟩, ⟨arTs_mem.mp ixa.2 u h1.1, arTs_mem.mp iya.2 v h1.2⟩, by show dep u ≤ _; omega, by show dep v ≤ _; omega⟩
  · intro θ hθ
    obtain ⟨d1, d2⟩ := h.D θ hθ
    refine ⟨d1, fun q hq => ?_⟩
    rcases List.mem_append.mp hq with e | e
    · exact d2 q (by rw [hl]; exact List.mem_append_left _ e)
    · have e0 : fillT θ x = fillT θ y := d2 (x, y) (by rw [hl]; simp)
      have e1 : fillT θ (.nd a ps) = fillT θ (.nd a qs) := by rw [← d1 (.nd a ps), ← d1 (.nd a qs), rx.e, ry.e, d1, d1, e0]
      rw [fillT, fillT, Tm.nd.injEq, fillTs_map, fillTs_map] at e1
      obtain ⟨k, hk⟩ := List.mem_iff_getElem?.mp (List.mem_reverse.mp e)
      obtain ⟨z1, z2⟩ := hz k q.1 q.2 hk
      have := congrArg (fun l => l[k]?) e1.2
      simp only [List.getElem?_map, z1, z2, Option.map_some, Option.some.injEq] at this
      exact this
  · intro θ h1 h2
    refine h.E θ (fun q hq => ?_) h2
    rw [hl] at hq
    rcases List.mem_append.mp hq with e | e
    · exact h1 q (List.mem_append_left _ e)
    · rw [List.mem_singleton.mp e]
      show fillT θ x = fillT θ y
      rw [← h2 x, ← h2 y, ← rx.e, ← ry.e, h2, h2, fillT, fillT, Tm.nd.injEq]
      refine ⟨rfl, ?_⟩
      rw [fillTs_map, fillTs_map]
      apply List.ext_getElem?
      intro k
      rw [List.getElem?_map, List.getElem?_map]
      rcases Nat.lt_or_ge k ps.length with hk | hk
      · have hk2 : k < qs.length := by omega
        have := h1 (ps[k], qs[k]) (List.mem_append_right _ (List.mem_reverse.mpr (List.mem_iff_getElem?.mpr ⟨k, by rw [List.getElem?_eq_getElem (by rw [List.length_zip]; omega), List.getElem_zip]⟩)))
        rw [List.getElem?_eq_getElem hk, List.getElem?_eq_getElem hk2]
        simp only [Option.map_some, this]
      · rw [List.getElem?_eq_none hk, List.getElem?_eq_none (by omega)]
/-- a blank led on to a term -/
theorem bindL (h : Inv one other φ left) (o1 : okT one = true) (o2 : okT other = true) (a1 : arT 3 one = true) (a2 : arT 3 other = true) {ψ : Fi} (L : Lk ψ φ) {x y : Tm} {l : Prs} {b : Str} {g r : Tm} (hl : left = l ++ [(x, y)]) (hb : (fillT φ x = .bl b ∧ fillT φ y = g) ∨ (fillT φ y = .bl b ∧ fillT φ x = g)) (hg : g ≠ .bl b) (R : Rst φ g r) (Re : fillT φ r = g) :
    (b ∉ flatB g → Inv one other (bind2 φ b g) l ∧ Lk (ψ ++ [(b, r)]) (bind2 φ b g) ∧ Ext φ (bind2 φ b g)) ∧ (b ∈ flatB g → ∀ θ, fillT θ one ≠ fillT θ other) := by
  have hx : left[l.length]? = some (x, y) := by rw [hl]; simp
  obtain ⟨ix, iy⟩ := h.its o1 o2 a1 a2 (h.st _ x y hx)
  have ib : Its one other φ (.bl b) := by rcases hb with ⟨e, _⟩ | ⟨e, _⟩ <;> rw [← e] <;> assumption
  obtain ⟨bB, bk⟩ := ib.b b (by simp [flatB])
  have fb := fill_bind (g := g) bk
  refine ⟨fun hn => ⟨h.bound o1 o2 a1 a2 hl hb hn, ?_, ?_⟩, fun hi θ hθ => ?_⟩
  · have flook : ∀ s, look [(b, g)] s = if s = b then some g else none := fun s => by
      by_cases e : s = b
      · simp [look, e]
      · simp [look, e, Ne.symm e]
    have gsame : fillT [(b, g)] g = g := fill_id g fun s hs => by
      rw [flook]
      exact if_neg fun (e : s = b) => hn (e ▸ hs)
    have bn : look ψ b = none := L.none.mpr bk
    refine ⟨?_, fun p hp => ?_, fun p hp => ?_, fun p hp => ?_, fun i k s e => ?_⟩
    · have := L.keys
      unfold fkeys bind2 at *
      rw [List.map_append, List.map_append, List.map_map, this]; rfl
    · rcases List.mem_append.mp hp with e | e
      · rw [fb, fb, L.val p e]
      · rw [List.mem_singleton.mp e]
        show fillT _ (.bl b) = fillT _ r
        rw [fb, fb, Re, gsame, show fillT φ (.bl b) = .bl b by rw [fillT, bk]; rfl, fillT, flook, if_pos rfl]; rfl
    · rcases List.mem_append.mp hp with e | e
      · exact L.ok p e
      · rw [List.mem_singleton.mp e]; exact R.ok
    · rcases List.mem_append.mp hp with e | e
      · exact L.ar p e
      · rw [List.mem_singleton.mp e]; exact R.ar
    · rcases Nat.lt_or_ge i ψ.length with hi | hi
      · rw [List.getElem?_append_left hi] at e
        have := L.fw i k s e
        have := pos_app ψ [(b, r)] s
        omega
      · rw [List.getElem?_append_right hi] at e
        have hi2 := ix_lt e
        simp at hi2
        rw [show i - ψ.length = 0 by omega] at e
        cases e
        have hs := R.fr s rfl
        have : s ≠ b := fun z => hn (by rw [← Re, fillT, hs]; simp [flatB, z])
        rw [pos_new (L.none.mpr hs) this]; omega
  · intro t u p e
    rw [fb, fb]; exact sub_fill e
  · obtain ⟨d1, d2⟩ := h.D θ hθ
    have e0 : fillT θ x = fillT θ y := d2 (x, y) (by rw [hl]; simp)
    have e1 : fillT θ (.bl b) = fillT θ g := by
      rcases hb with ⟨ea, eb⟩ | ⟨ea, eb⟩
      · rw [← ea, ← eb, d1, d1, e0]
      · rw [← ea, ← eb, d1, d1, e0]
    have := occ_parts (θ := θ) g hi hg
    rw [e1] at this
    omega
end
section
variable {T : Tab}
structure H15 (T : Tab) : Prop where
  re : Is2 T "_law_rest" X__law_rest
  st : Is3 T "_law_stands" X__law_stands
  al : Is3 T "_law_alike" X__law_alike
def AlG (one other : Tm) (φ : Fi) (l : Prs) (p : P (D × D)) : Prop := ∃ b ψ', p = .ok (.bl b, .dic (fiD ψ')) ∧ (b = true → ∃ φ', Inv one other φ' l ∧ Lk ψ' φ' ∧ Ext φ φ') ∧ (b = false → ∀ θ, fillT θ one ≠ fillT θ other)
theorem c_alike (h : H15 T) {one other : Tm} (o1 : okT one = true) (o2 : okT other = true) (a1 : arT 3 one = true) (a2 : arT 3 other = true) (hB : (blks one other).length ≤ 1000) : ∀ (n : Nat) {l : Prs} {x y : Tm} {φ ψ : Fi} {p : Pl}, Inv one other φ (l ++ [(x, y)]) → Lk ψ φ → sub (fillT φ one) p = some (fillT φ x) → sub (fillT φ other) p = some (fillT φ y) → most one other + 3 ≤ n + p.length →
    AlG one other φ l (callC T n "_law_alike" [toD x, toD y, .dic (fiD ψ)]) := by
  intro n
  induction n with
  | zero =>
    intro l x y φ ψ p hI L sx sy hn
    have := sub_dep sx
    have := hI.dep1 orig1
    omega
  | succ n ih =>
    intro l x y φ ψ p hI L sx sy hn
    have d1 := sub_dep sx
    have d2 := sub_dep sy
    have d3 := hI.dep1 orig1
    have d4 := hI.dep1 orig2
    have dpx := dep_pos (fillT φ x)
    have dpy := dep_pos (fillT φ y)
    have hlen := hI.len
    have hll := L.len
    obtain ⟨⟨xo, yo⟩, ⟨xa, ya⟩, _⟩ := hI.so (x, y) (by simp)
    obtain ⟨rx, ex, X⟩ := c_rest h.re (n := n) (by omega) L (by omega) xo xa
    obtain ⟨ry, ey, Y⟩ := c_rest h.re (n := n) (by omega) L (by omega) yo ya
    rw [h.al]
    unfold X__law_alike
    refine G_of (bk ex _) ?_
    try dsimp only
    rw [p_if (pure_tm rx)]
    refine G_of (bk ey _) ?_
    try dsimp only
    rw [p_if (pure_tm ry)]
    -- a blank bound, or not
    have fin : ∀ (b : Str) (r : Tm), ((fillT φ x = .bl b ∧ fillT φ y = fillT φ r) ∨ (fillT φ y = .bl b ∧ fillT φ x = fillT φ r)) → fillT φ r ≠ .bl b → Rst φ (fillT φ r) r → PyData.strOk b = true →
        AlG one other φ l ((callC T n "_law_stands" [.str b, toD r, .dic (fiD ψ)]).bind fun p24 => ifP (D.pure p24.1) (asB p24.1 fun b25 => bif b25 then .ok ((.bl false), .dic (fiD ψ))
          else setP (.dic (fiD ψ)) (.str b) (toD r) fun l_links26 => .ok ((.bl true), l_links26))) := fun b r hb hg R bo => by
      obtain ⟨g1, g2⟩ := bindL hI o1 o2 a1 a2 L rfl hb hg R rfl
      have bn : look φ b = none := by
        have hx : (l ++ [(x, y)])[l.length]? = some (x, y) := by simp
        obtain ⟨ix, iy⟩ := hI.its o1 o2 a1 a2 (hI.st _ x y hx)
        have ib : Its one other φ (.bl b) := by rcases hb with ⟨e, _⟩ | ⟨e, _⟩ <;> rw [← e] <;> assumption
        exact (ib.b b (by simp [flatB])).2
      have es := c_stands h.st h.re L (by omega) bo n r (by rcases hb with ⟨_, e⟩ | ⟨_, e⟩ <;> rw [← e] <;> omega) R.ok R.ar
      refine G_of (bk es _) ?_
      try dsimp only
      rw [p_if (by rfl)]
      try dsimp only
      rw [p_B]
      try dsimp only
      by_cases hi : b ∈ flatB (fillT φ r)
      · rw [p_ci (decide_eq_true hi)]
        try dsimp only
        exact ⟨false, ψ, rfl, fun z => (by cases z), fun _ => g2 hi⟩
      · rw [p_cn (decide_eq_false hi)]
        try dsimp only
        rw [p_setFi (by omega)]
        try dsimp only
        rw [fput_new (L.none.mpr bn)]
        try dsimp only
        obtain ⟨I2, L2, E2⟩ := g1 hi
        exact ⟨true, ψ ++ [(b, r)], rfl, fun _ => ⟨_, I2, L2, E2⟩, fun z => (by cases z)⟩
    have fl : ∀ s, look φ s = none → fillT φ (.bl s) = .bl s := fun s hs => by rw [fillT, hs]; rfl
    have hx' : (l ++ [(x, y)])[l.length]? = some (x, y) := by simp
    obtain ⟨ix, iy⟩ := hI.its o1 o2 a1 a2 (hI.st _ x y hx')
    have RY : Rst φ (fillT φ ry) ry := ⟨by rw [Y.e]; exact iy.same.symm, Y.ok, Y.ar, Y.fr⟩
    have RX : Rst φ (fillT φ rx) rx := ⟨by rw [X.e]; exact ix.same.symm, X.ok, X.ar, X.fr⟩
    cases rx with
    | bl a =>
      have ao : PyData.strOk a = true := X.ok
      have an := X.fr a rfl
      have xe : fillT φ x = .bl a := by rw [← X.e]; exact fl a an
      cases ry with
      | bl c =>
        have co : PyData.strOk c = true := Y.ok
        have cn := Y.fr c rfl
        have ye : fillT φ y = .bl c := by rw [← Y.e]; exact fl c cn
        rw [show toD (.bl a) = .str a from rfl]
        try dsimp only
        rw [show toD (.bl c) = .str c from rfl]
        try dsimp only
        rw [p_isS_S]
        try dsimp only
        rw [p_B]
        try dsimp only
        rw [p_j1]
        try dsimp only
        rw [p_ct]
        try dsimp only
        rw [p_isS_S]
        try dsimp only
        rw [p_B]
        try dsimp only
        rw [p_j1]
        try dsimp only
        rw [p_ct]
        try dsimp only
        rw [show D.str a = toD (.bl a) from rfl]
        try dsimp only
        rw [show D.str c = toD (.bl c) from rfl]
        try dsimp only
        rw [p_eqT (t := .bl a) (u := .bl c) ao co (by simp [dep]) (by simp [dep])]
        try dsimp only
        try dsimp only
        rw [p_B]
        try dsimp only
        by_cases hac : a = c
        · subst hac
          rw [p_ci (by simp)]
          try dsimp only
          exact ⟨true, ψ, rfl, fun _ => ⟨φ, hI.popd rfl (by rw [xe, ye]), L, Ext.rfl⟩, fun z => (by cases z)⟩
        · rw [p_cn (by simp [hac])]
          try dsimp only
          rw [show toD (.bl a) = .str a from rfl]
          try dsimp only
          rw [p_isS_S]
          try dsimp only
          rw [p_B]
          try dsimp only
          rw [p_j1]
          try dsimp only
          rw [p_cn (by rfl)]
          try dsimp only
          try dsimp only
          rw [p_B]
          try dsimp only
          rw [p_j2]
          try dsimp only
          rw [p_cf]
          try dsimp only
          rw [p_isS_S]
          try dsimp only
          rw [p_B]
          try dsimp only
          rw [p_ct]
          try dsimp only
          refine fin a (.bl c) (.inl ⟨xe, by rw [fl c cn]; exact ye⟩) (by rw [fl c cn]; intro z; cases z; exact hac rfl) RY ao
      | nd c qs =>
        rw [show toD (.bl a) = .str a from rfl]
        try dsimp only
        rw [p_isS_S]
        try dsimp only
        rw [p_B]
        try dsimp only
        rw [p_j1]
        try dsimp only
        rw [p_ct]
        try dsimp only
        rw [show toD (.nd c qs) = .tup (.str c :: toDs qs) from rfl]
        try dsimp only
        rw [p_isS_T]
        try dsimp only
        rw [p_B]
        try dsimp only
        rw [p_j1]
        try dsimp only
        rw [p_cf]
        try dsimp only
        try dsimp only
        rw [p_B]
        try dsimp only
        rw [p_cf]
        try dsimp only
        rw [p_isS_S]
        try dsimp only
        rw [p_B]
        try dsimp only
        rw [p_j1]
        try dsimp only
        rw [p_cn (by rfl)]
        try dsimp only
        try dsimp only
        rw [p_B]
        try dsimp only
        rw [p_j2]
        try dsimp only
        rw [p_cf]
        try dsimp only
        rw [p_isS_S]
        try dsimp only
        rw [p_B]
        try dsimp only
        rw [p_ct]
        try dsimp only
        refine fin a (.nd c qs) (.inl ⟨xe, by rw [Y.e]⟩) (by rw [fillT]; intro z; cases z) RY ao
    | nd a ps =>
      cases ry with
      | bl c =>
        have co : PyData.strOk c = true := Y.ok
        have cn := Y.fr c rfl
        have ye : fillT φ y = .bl c := by rw [← Y.e]; exact fl c cn
        rw [show toD (.nd a ps) = .tup (.str a :: toDs ps) from rfl]
        try dsimp only
        rw [p_isS_T]
        try dsimp only
        rw [p_B]
        try dsimp only
        rw [p_j1]
        try dsimp only
        rw [p_cf]
        try dsimp only
        try dsimp only
        rw [p_B]
        try dsimp only
        rw [p_cf]
        try dsimp only
        rw [p_isS_T]
        try dsimp only
        rw [p_B]
        try dsimp only
        rw [p_j1]
        try dsimp only
        rw [p_ci (by rfl)]
        try dsimp only
        rw [show toD (.bl c) = .str c from rfl]
        try dsimp only
        rw [p_isS_S]
        try dsimp only
        try dsimp only
        rw [p_B]
        try dsimp only
        rw [p_j2]
        try dsimp only
        rw [p_ct]
        try dsimp only
        rw [p_isS_S]
        try dsimp only
        rw [p_B]
        try dsimp only
        rw [p_ct]
        try dsimp only
        refine fin c (.nd a ps) (.inr ⟨ye, by rw [X.e]⟩) (by rw [fillT]; intro z; cases z) RX co
      | nd c qs =>
        have Xo := X.ok
        rw [okT, Bool.and_eq_true] at Xo
        have Yo := Y.ok
        rw [okT, Bool.and_eq_true] at Yo
        have Xa := X.ar
        rw [arT, Bool.and_eq_true, decide_eq_true_iff] at Xa
        have Ya := Y.ar
        rw [arT, Bool.and_eq_true, decide_eq_true_iff] at Ya
        have no : ¬ (a = c ∧ ps.length = qs.length) → ∀ θ, fillT θ one ≠ fillT θ other := fun hno θ hθ => by
          obtain ⟨d1, d2⟩ := hI.D θ hθ
          have e0 : fillT θ x = fillT θ y := d2 (x, y) (by simp)
          have e1 : fillT θ (.nd a ps) = fillT θ (.nd c qs) := by rw [← d1 (.nd a ps), ← d1 (.nd c qs), X.e, Y.e, d1, d1, e0]
          rw [fillT, fillT, Tm.nd.injEq, fillTs_map, fillTs_map] at e1
          have := congrArg List.length e1.2
          rw [List.length_map, List.length_map] at this
          exact hno ⟨e1.1, this⟩
        rw [show toD (.nd a ps) = .tup (.str a :: toDs ps) from rfl]
        try dsimp only
        rw [p_isS_T]
        try dsimp only
        rw [p_B]
        try dsimp only
        rw [p_j1]
        try dsimp only
        rw [p_cf]
        try dsimp only
        try dsimp only
        rw [p_B]
        try dsimp only
        rw [p_cf]
        try dsimp only
        rw [p_isS_T]
        try dsimp only
        rw [p_B]
        try dsimp only
        rw [p_j1]
        try dsimp only
        rw [p_ci (by rfl)]
        try dsimp only
        rw [show toD (.nd c qs) = .tup (.str c :: toDs qs) from rfl]
        try dsimp only
        rw [p_isS_T]
        try dsimp only
        try dsimp only
        rw [p_B]
        try dsimp only
        rw [p_j2]
        try dsimp only
        rw [p_cf]
        try dsimp only
        rw [p_isS_T]
        try dsimp only
        rw [p_B]
        try dsimp only
        rw [p_cf]
        try dsimp only
        rw [p_idx0T]
        try dsimp only
        rw [p_idx0T]
        try dsimp only
        rw [p_ne (p := a = c) rfl rfl (eqOk_str Xo.1) (eqOk_str Yo.1) (by simp)]
        try dsimp only
        rw [p_B]
        try dsimp only
        rw [p_j1]
        try dsimp only
        by_cases hac : a = c
        · subst hac
          rw [p_cn (by simp)]
          try dsimp only
          rw [p_lenT]
          try dsimp only
          rw [p_lenT]
          try dsimp only
          rw [p_neI]
          try dsimp only
          try dsimp only
          rw [p_B]
          try dsimp only
          rw [List.length_cons]
          try dsimp only
          rw [List.length_cons]
          try dsimp only
          rw [toDs_map]
          try dsimp only
          rw [toDs_map]
          try dsimp only
          rw [List.length_map]
          try dsimp only
          rw [List.length_map]
          try dsimp only
          by_cases hll2 : ps.length = qs.length
          · rw [p_cn (by simp; omega)]
            try dsimp only
            rw [p_lenT]
            try dsimp only
            rw [List.length_cons]
            try dsimp only
            rw [List.length_map]
            try dsimp only
            rw [p_rng2 (by decide) (by decide) (by omega) (by omega)]
            try dsimp only
            rw [show (((ps.length + 1 : Nat) : Int) - 1).toNat = ps.length by omega]
            try dsimp only
            rw [p_if (by rw [rangeD_len]; exact sz_of (by omega))]
            try dsimp only
            rw [range1]
            try dsimp only
            have I2 := hI.downL rfl X Y hll2 ⟨by omega, by omega⟩
            have zl : (ps.zip qs).length = ps.length := by rw [List.length_zip]; omega
            refine loop1_G (List.range ps.length) (fun i : Nat => .int (1 + (i : Int))) (fun s : Fi × Fi => .dic (fiD s.1)) (fun i s => Inv one other s.2 (l ++ ((ps.zip qs).drop i).reverse) ∧ Lk s.1 s.2 ∧ Ext φ s.2) (ψ, φ) ⟨by simpa using I2, L, Ext.rfl⟩ (fun i s k hs hk => ?_) (fun s hs => ?_)
            · obtain ⟨Is, Ls, Es⟩ := hs
              have hi : i < ps.length := by have := ix_lt hk; simpa using this
              have hk2 : k = i := by
                rw [List.getElem?_eq_getElem (by simpa using hi), List.getElem_range] at hk
                cases hk; rfl
              subst hk2
              have e1 : ps[k]? = some ps[k] := List.getElem?_eq_getElem hi
              have hi2 : k < qs.length := by omega
              have e2 : qs[k]? = some qs[k] := List.getElem?_eq_getElem hi2
              have dz : (ps.zip qs).drop k = (ps[k], qs[k]) :: (ps.zip qs).drop (k + 1) := by
                rw [List.drop_eq_getElem_cons (by omega), List.getElem_zip]
              rw [dz, List.reverse_cons, ← List.append_assoc] at Is
              have sx' : sub (fillT φ one) (p ++ [k]) = some (fillT φ ps[k]) := by
                rw [sub_app sx, ← X.e, fillT, sub, fillTs_map, List.getElem?_map, e1]; exact sub_nil _
              have sy' : sub (fillT φ other) (p ++ [k]) = some (fillT φ qs[k]) := by
                rw [sub_app sy, ← Y.e, fillT, sub, fillTs_map, List.getElem?_map, e2]; exact sub_nil _
              obtain ⟨b, ψ', eb, hb1, hb2⟩ := ih Is Ls (Es _ _ _ sx') (Es _ _ _ sy') (by rw [List.length_append]; simp; omega)
              have k1 := atI_kid (s := a) e1
              have k2 := atI_kid (s := a) e2
              cases b with
              | false =>
                refine .inr ⟨_, fun k => ?_, false, ψ', rfl, fun z => (by cases z), fun _ => hb2 rfl⟩
                rw [p_idxT k1, p_idxT k2]
                refine (bk (eb) _).trans ?_; try dsimp only
                rw [p_B]
                try dsimp only
                rw [p_ci (by rfl)]
                try dsimp only
              | true =>
                obtain ⟨φ', I3, L3, E3⟩ := hb1 rfl
                refine .inl ⟨(ψ', φ'), ⟨I3, L3, Es.trans E3⟩, fun k => ?_⟩
                rw [p_idxT k1, p_idxT k2]
                refine (bk (eb) _).trans ?_; try dsimp only
                rw [p_B]
                try dsimp only
                rw [p_cn (by rfl)]
                try dsimp only
            · obtain ⟨Is, Ls, Es⟩ := hs
              rw [List.length_range, List.drop_of_length_le (by omega), List.reverse_nil, List.append_nil] at Is
              exact ⟨true, s.1, rfl, fun _ => ⟨s.2, Is, Ls, Es⟩, fun z => (by cases z)⟩
          · rw [p_ci (by simp; omega)]
            try dsimp only
            exact ⟨false, ψ, rfl, fun z => (by cases z), fun _ => no fun z => hll2 z.2⟩
        · rw [p_ci (by simp [hac])]
          try dsimp only
          try dsimp only
          rw [p_B]
          try dsimp only
          rw [p_ct]
          try dsimp only
          exact ⟨false, ψ, rfl, fun z => (by cases z), fun _ => no fun z => hac z.1⟩
theorem c_good15 (hm' : HM T) (h : H15 T) (hg : Is2 T "_law_good" X__law_good_k15) {n : Nat} {one other : Tm} (o1 : okT one = true) (o2 : okT other = true) (a1 : arT 3 one = true) (a2 : arT 3 other = true) (hm : most one other ≤ 60) (hb : (blks one other).length ≤ 1000) (hn : most one other + 7 ≤ n) :
    callC T n "_law_good" [toD one, toD other] = .ok (.bl true, .non) := by
  obtain ⟨m, rfl⟩ : ∃ m, n = m + 1 := ⟨n - 1, by omega⟩
  rw [hg]
  unfold X__law_good_k15
  obtain ⟨r1, e1, s1⟩ := c_made_alike hm' (n := m) o1 o2 a1 a2 hm hb (by omega)
  obtain ⟨b, ψ', eb, hb1, hb2⟩ := c_alike h o1 o2 a1 a2 hb m (l := []) (x := one) (y := other) (φ := []) (ψ := []) (p := []) (inv0 o1 o2 a1 a2) lk0 (sub_nil _) (sub_nil _) (by simp; omega)
  refine (bk (e1) _).trans ?_; try dsimp only
  cases r1 with
  | none =>
    have hbf : b = false := by
      cases b with
      | false => rfl
      | true => obtain ⟨φ', I, _⟩ := hb1 rfl; exact absurd I.done.un (s1 φ')
    subst hbf
    simp only [maD]
    rw [p_nN_N]
    refine (bk (eb) _).trans ?_; try dsimp only
    rfl
  | some φ =>
    have g1 : MG one other φ := s1
    have hbt : b = true := by
      cases b with
      | true => rfl
      | false => exact absurd g1.un (hb2 rfl φ)
    subst hbt
    simp only [maD]
    rw [p_nN_D]
    refine (bk (eb) _).trans ?_; try dsimp only
    rfl
structure L15 (T : Tab) : Prop where
  g : HG T
  n : H2nd T
  m : HM T
  a : H15 T
  go : Is2 T "_law_good" X__law_good_k15
theorem law15 (h : L15 T) {n : Nat} (hn : 80 ≤ n) (ns : List Int) : X_law_k15 (callC T n) (.lst (ns.map D.int)) = .ok (.bl true, .non) := by
  unfold X_law_k15
  have c0 := c_cellF h.g.cell (n := n) (by omega) ns 0 (by decide)
  have c1 := c_cellF h.g.cell (n := n) (by omega) ns 1 (by decide)
  have e0 := c_sorts h.g.words h.g.sorts (n := n) (by omega) (cellF ns 0)
  have e1 := c_blanks h.g.blanks (n := n) (by omega) (cellF ns 1)
  have so_ok := sorts_ok (cellF ns 0)
  have bl := blanks_len (cellF ns 1)
  have bo : BsOk (blanksL (cellF ns 1)) := ⟨by omega, blanks_ok _⟩
  refine (bk (c0) _).trans ?_; try dsimp only
  refine (bk (e0) _).trans ?_; try dsimp only
  refine (bk (c1) _).trans ?_; try dsimp only
  refine (bk (e1) _).trans ?_; try dsimp only
  generalize sorts (cellF ns 0) = so at *
  generalize blanksL (cellF ns 1) = bs at *
  have cl : (cut ns none (some 20)).length ≤ 20 := by rw [cut_take _ _ (by decide)]; simp; omega
  rw [p_slL, cut_map, p_addL (by simp; exact sz_of (by omega)), p_addL (by simp; exact sz_of (by omega))]
  rw [show [D.int 1, D.int 3, D.int 5] ++ List.map D.int (cut ns none (some 20)) ++ [D.int 7, D.int 9] = ([1, 3, 5] ++ cut ns none (some 20) ++ [7, 9]).map D.int by simp]
  generalize hcs : [1, 3, 5] ++ cut ns none (some 20) ++ [7, 9] = cs
  have csl : 5 ≤ cs.length ∧ cs.length ≤ 30 := by rw [← hcs]; simp; omega
  rw [p_lenL, List.length_map, p_subI, p_rng (by omega) (by omega), p_if (by rw [rangeD_len]; exact sz_of (by omega)), rangeD0]
  refine (loop0_all (List.range ((cs.length : Int) - 2).toNat) (fun i : Nat => .int i) fun x hx k => ?_).trans rfl
  have hx : x < ((cs.length : Int) - 2).toNat := by simpa using hx
  rw [p_addI, p_idxL (atI_map (d := 0) (by omega) (by omega)), p_mul (mu1 _), p_mod z2147483647, p_idxL (atI_map (d := 0) (by omega) (by omega))]
  generalize cs.getD (Int.toNat x) 0 = ca
  generalize cs.getD (Int.toNat ((x : Int) + 2)) 0 * 1000000007 % 2147483647 = num
  have ql := stream_len ca 6
  have qn : stream ca 6 ≠ [] := fun z => by rw [z] at ql; cases ql
  have uk := term_ok (nums := stream ca 6) (bs := bs) (most := 6) so_ok (by omega) qn
  rw [ql] at uk
  refine (bk (c_stream h.n.s (n := n) (by omega) ca 6 (by omega)) _).trans ?_; try dsimp only
  refine (bk (c_term h.n.t (n := n) (stream ca 6) so bs 6 (by omega) so_ok bo (by omega) qn (by omega)) _).trans ?_; try dsimp only
  generalize term (stream ca 6) so bs 6 = one at *
  rw [p_addI, p_idxL (atI_map (d := 0) (by omega) (by omega))]
  obtain ⟨u, eu, uf, up⟩ := c_second h.n (n := n) (cs.getD (Int.toNat ((x : Int) + 1)) 0) num (by omega) so_ok bo bl.1 uk
  refine (bk (eu) _).trans ?_; try dsimp only
  have oo := fit_ok so_ok bo one uk.f
  have oa := fit_ar so_ok one uk.f
  have uo := fit_ok so_ok bo u uf
  have ua := fit_ar so_ok u uf
  have op := uk.p
  have od := uk.d
  obtain ⟨m1, m2⟩ := most_le uk.p up
  refine (bk (c_good15 h.m h.a h.go (n := n) oo uo oa ua (by omega) (by omega) (by omega)) _).trans ?_; try dsimp only
  have bb0 := Int.emod_nonneg num (b := (bs.length : Int)) (by omega)
  have bb1 := Int.emod_lt_of_pos num (b := (bs.length : Int)) (by omega)
  have bm : bs.getD (num % bs.length).toNat ⟨#[]⟩ ∈ bs := by
    rw [List.getD_eq_getElem?_getD, List.getElem?_eq_getElem (show (num % bs.length).toNat < bs.length by omega)]; exact List.getElem_mem _
  rw [p_B, p_j1, p_cn (by rfl), p_lenL, List.length_map, p_mod (by omega), p_idxL (atI_map (d := ⟨#[]⟩) bb0 bb1)]
  generalize bs.getD (num % bs.length).toNat ⟨#[]⟩ = b at *
  have sp1 : parts (.bl b) ≤ 1 := by simp [parts]
  obtain ⟨m3, m4⟩ := most_le sp1 up
  refine (bk (c_good15 h.m h.a h.go (n := n) (one := .bl b) (bo.ok b bm) uo rfl ua (by omega) (by omega) (by omega)) _).trans ?_; try dsimp only
  rw [p_B]
  try dsimp only
  rw [p_B, p_cn (by rfl)]
  have du : dep u ≤ 13 := by
    have := dep_le_of (t := u) (V := nds u) (fun _ z => z)
    have := nds_len u
    omega
  refine (bk (c_count h.n.t.co n one (by omega) (by omega)) _).trans ?_; try dsimp only
  refine (bk (c_count h.n.t.co n u (by omega) (by omega)) _).trans ?_; try dsimp only
  rw [p_addI, p_lt]
  obtain ⟨s0, srr, hso⟩ : ∃ s0 r, so = s0 :: r := by
    cases so with
    | nil => exact absurd rfl so_ok.ne
    | cons a r => exact ⟨a, r, rfl⟩
  have s0ok : PyData.strOk s0.1 = true := so_ok.ok s0 (by rw [hso]; exact .head _)
  rw [hso, List.map_cons, p_idx0L, soD, p_idx0T, p_B, p_j1]
  by_cases hw : (parts one : Int) + parts u < 16
  · obtain ⟨b0, br, hbs⟩ : ∃ s0 r, bs = s0 :: r := by
      cases bs with
      | nil => simp at bl
      | cons a r => exact ⟨a, r, rfl⟩
    have b0ok : PyData.strOk b0 = true := bo.ok b0 (by rw [hbs]; exact .head _)
    rw [p_ci (decide_eq_true hw), hbs, List.map_cons, p_idx0L]
    have e3 : D.tup [.str s0.1, toD one, toD u] = toD (.nd s0.1 [one, u]) := rfl
    have e4 : D.tup [.str s0.1, toD u, .str b0] = toD (.nd s0.1 [u, .bl b0]) := rfl
    rw [e3, e4]
    have w1 : parts (.nd s0.1 [one, u]) ≤ 17 := by simp only [parts, partss]; omega
    have w2 : parts (.nd s0.1 [u, .bl b0]) ≤ 15 := by simp only [parts, partss]; omega
    obtain ⟨m5, m6⟩ := most_le w1 w2
    refine (bk (c_good15 h.m h.a h.go (n := n) (one := .nd s0.1 [one, u]) (other := .nd s0.1 [u, .bl b0]) (by simp [okT, okTs, s0ok, oo, uo]) (by simp [okT, okTs, s0ok, b0ok, uo]) (by simp [arT, arTs, oa, ua]) (by simp [arT, arTs, ua]) (by omega) (by omega) (by omega)) _).trans ?_; try dsimp only
    rw [p_B]
    try dsimp only
    rw [p_B, p_cn (by rfl)]
  · rw [p_cn (decide_eq_false hw)]
    try dsimp only
    rw [p_B, p_cf]
end
end Pu
end

section
set_option Elab.async false
set_option maxRecDepth 100000
set_option maxHeartbeats 0
namespace k15
open En PySem PySem.Spec L2
noncomputable section
def top (i : Nat) : Stmt := PySem.Challenge.pw_endmeet_k15_none_alike.main.body.getD i (.Pass ⟨0, 0, 0, 0⟩)
def cs : List (Str × D) := []
def r_is_blank : En.Row := ⟨Sh.f_is_blank, top 1, ["term"]⟩
def r_inner : En.Row := ⟨Sh.f_inner, top 2, ["term"]⟩
def r_blanks_of : En.Row := ⟨Sh.f_blanks_of, top 3, ["term"]⟩
def r_filled : En.Row := ⟨Sh.f_filled, top 5, ["term", "filling"]⟩
def r_bound : En.Row := ⟨Sh.f_bound, top 6, ["filling", "blank", "term"]⟩
def r_made_alike : En.Row := ⟨Sh.f_made_alike, top 7, ["one", "other"]⟩
def r__law_cell : En.Row := ⟨Sh.f__law_cell, top 9, ["_law_script", "_law_k"]⟩
def r__law_words : En.Row := ⟨Sh.f__law_words, top 10, ["_law_cell_here"]⟩
def r__law_sorts : En.Row := ⟨Sh.f__law_sorts, top 11, ["_law_cell_here"]⟩
def r__law_blanks : En.Row := ⟨Sh.f__law_blanks, top 12, ["_law_cell_here"]⟩
def r__law_grown : En.Row := ⟨Sh.f__law_grown, top 13, ["_law_row", "_law_number", "_law_sorts_here", "_law_blanks_here", "_law_most"]⟩
def r__law_purse : En.Row := ⟨Sh.f__law_purse, top 14, ["_law_cell_here"]⟩
def r__law_take : En.Row := ⟨Sh.f__law_take, top 15, ["_law_purse_here", "_law_many"]⟩
def r__law_stream : En.Row := ⟨Sh.f__law_stream, top 16, ["_law_cell_here", "_law_many"]⟩
def r__law_count : En.Row := ⟨Sh.f__law_count_k02, top 17, ["_law_term_here"]⟩
def r__law_term : En.Row := ⟨Sh.f__law_term, top 18, ["_law_numbers", "_law_sorts_here", "_law_blanks_here", "_law_most"]⟩
def r__law_part : En.Row := ⟨Sh.f__law_part, top 19, ["_law_term_here", "_law_place"]⟩
def r__law_places : En.Row := ⟨Sh.f__law_places, top 20, ["_law_term_here"]⟩
def r__law_put : En.Row := ⟨Sh.f__law_put, top 21, ["_law_term_here", "_law_place", "_law_new"]⟩
def r__law_filled : En.Row := ⟨Sh.f__law_filled_k12, top 22, ["_law_term_here", "_law_filling"]⟩
def r__law_rest : En.Row := ⟨Sh.f__law_rest, top 23, ["_law_term_here", "_law_links"]⟩
def r__law_stands : En.Row := ⟨Sh.f__law_stands, top 24, ["_law_blank", "_law_term_here", "_law_links"]⟩
def r__law_alike : En.Row := ⟨Sh.f__law_alike, top 25, ["_law_one", "_law_other", "_law_links"]⟩
def r__law_second : En.Row := ⟨Sh.f__law_second, top 26, ["_law_one", "_law_cell_here", "_law_number", "_law_sorts_here", "_law_blanks_here"]⟩
def r__law_good : En.Row := ⟨Sh.f__law_good_k15, top 27, ["_law_one", "_law_other"]⟩
def r_law : En.Row := ⟨Sh.f_law_k15, top 28, ["_law_script"]⟩
def rows : List En.Row := [r_is_blank, r_inner, r_blanks_of, r_filled, r_bound, r_made_alike, r__law_cell, r__law_words, r__law_sorts, r__law_blanks, r__law_grown, r__law_purse, r__law_take, r__law_stream, r__law_count, r__law_term, r__law_part, r__law_places, r__law_put, r__law_filled, r__law_rest, r__law_stands, r__law_alike, r__law_second, r__law_good, r_law]
theorem s_is_blank : Stat (tabOf rows) cs r_is_blank := ⟨by decide +kernel, ⟨rfl, rfl, rfl, by decide +kernel, rfl, by decide +kernel, by decide +kernel⟩, rfl, by decide, fun _ _ _ _ _ _ us hl => match us, hl with | [_], _ => rfl⟩
theorem s_inner : Stat (tabOf rows) cs r_inner := ⟨by decide +kernel, ⟨rfl, rfl, rfl, by decide +kernel, rfl, by decide +kernel, by decide +kernel⟩, rfl, by decide, fun _ _ _ _ _ _ us hl => match us, hl with | [_], _ => rfl⟩
theorem s_blanks_of : Stat (tabOf rows) cs r_blanks_of := ⟨by decide +kernel, ⟨rfl, rfl, rfl, by decide +kernel, rfl, by decide +kernel, by decide +kernel⟩, rfl, by decide, fun _ _ _ _ _ _ us hl => match us, hl with | [_], _ => rfl⟩
theorem s_filled : Stat (tabOf rows) cs r_filled := ⟨by decide +kernel, ⟨rfl, rfl, rfl, by decide +kernel, rfl, by decide +kernel, by decide +kernel⟩, rfl, by decide, fun _ _ _ _ _ _ us hl => match us, hl with | [_, _], _ => rfl⟩
theorem s_bound : Stat (tabOf rows) cs r_bound := ⟨by decide +kernel, ⟨rfl, rfl, rfl, by decide +kernel, rfl, by decide +kernel, by decide +kernel⟩, rfl, by decide, fun _ _ _ _ _ _ us hl => match us, hl with | [_, _, _], _ => rfl⟩
theorem s_made_alike : Stat (tabOf rows) cs r_made_alike := ⟨by decide +kernel, ⟨rfl, rfl, rfl, by decide +kernel, rfl, by decide +kernel, by decide +kernel⟩, rfl, by decide, fun _ _ _ _ _ _ us hl => match us, hl with | [_, _], _ => rfl⟩
theorem s__law_cell : Stat (tabOf rows) cs r__law_cell := ⟨by decide +kernel, ⟨rfl, rfl, rfl, by decide +kernel, rfl, by decide +kernel, by decide +kernel⟩, rfl, by decide, fun _ _ _ _ _ _ us hl => match us, hl with | [_, _], _ => rfl⟩
theorem s__law_words : Stat (tabOf rows) cs r__law_words := ⟨by decide +kernel, ⟨rfl, rfl, rfl, by decide +kernel, rfl, by decide +kernel, by decide +kernel⟩, rfl, by decide, fun _ _ _ _ _ _ us hl => match us, hl with | [_], _ => rfl⟩
theorem s__law_sorts : Stat (tabOf rows) cs r__law_sorts := ⟨by decide +kernel, ⟨rfl, rfl, rfl, by decide +kernel, rfl, by decide +kernel, by decide +kernel⟩, rfl, by decide, fun _ _ _ _ _ _ us hl => match us, hl with | [_], _ => rfl⟩
theorem s__law_blanks : Stat (tabOf rows) cs r__law_blanks := ⟨by decide +kernel, ⟨rfl, rfl, rfl, by decide +kernel, rfl, by decide +kernel, by decide +kernel⟩, rfl, by decide, fun _ _ _ _ _ _ us hl => match us, hl with | [_], _ => rfl⟩
theorem s__law_grown : Stat (tabOf rows) cs r__law_grown := ⟨by decide +kernel, ⟨rfl, rfl, rfl, by decide +kernel, rfl, by decide +kernel, by decide +kernel⟩, rfl, by decide, fun _ _ _ _ _ _ us hl => match us, hl with | [_, _, _, _, _], _ => rfl⟩
theorem s__law_purse : Stat (tabOf rows) cs r__law_purse := ⟨by decide +kernel, ⟨rfl, rfl, rfl, by decide +kernel, rfl, by decide +kernel, by decide +kernel⟩, rfl, by decide, fun _ _ _ _ _ _ us hl => match us, hl with | [_], _ => rfl⟩
theorem s__law_take : Stat (tabOf rows) cs r__law_take := ⟨by decide +kernel, ⟨rfl, rfl, rfl, by decide +kernel, rfl, by decide +kernel, by decide +kernel⟩, rfl, by decide, fun _ _ _ _ _ _ us hl => match us, hl with | [_, _], _ => rfl⟩
theorem s__law_stream : Stat (tabOf rows) cs r__law_stream := ⟨by decide +kernel, ⟨rfl, rfl, rfl, by decide +kernel, rfl, by decide +kernel, by decide +kernel⟩, rfl, by decide, fun _ _ _ _ _ _ us hl => match us, hl with | [_, _], _ => rfl⟩
theorem s__law_count : Stat (tabOf rows) cs r__law_count := ⟨by decide +kernel, ⟨rfl, rfl, rfl, by decide +kernel, rfl, by decide +kernel, by decide +kernel⟩, rfl, by decide, fun _ _ _ _ _ _ us hl => match us, hl with | [_], _ => rfl⟩
theorem s__law_term : Stat (tabOf rows) cs r__law_term := ⟨by decide +kernel, ⟨rfl, rfl, rfl, by decide +kernel, rfl, by decide +kernel, by decide +kernel⟩, rfl, by decide, fun _ _ _ _ _ _ us hl => match us, hl with | [_, _, _, _], _ => rfl⟩
theorem s__law_part : Stat (tabOf rows) cs r__law_part := ⟨by decide +kernel, ⟨rfl, rfl, rfl, by decide +kernel, rfl, by decide +kernel, by decide +kernel⟩, rfl, by decide, fun _ _ _ _ _ _ us hl => match us, hl with | [_, _], _ => rfl⟩
theorem s__law_places : Stat (tabOf rows) cs r__law_places := ⟨by decide +kernel, ⟨rfl, rfl, rfl, by decide +kernel, rfl, by decide +kernel, by decide +kernel⟩, rfl, by decide, fun _ _ _ _ _ _ us hl => match us, hl with | [_], _ => rfl⟩
theorem s__law_put : Stat (tabOf rows) cs r__law_put := ⟨by decide +kernel, ⟨rfl, rfl, rfl, by decide +kernel, rfl, by decide +kernel, by decide +kernel⟩, rfl, by decide, fun _ _ _ _ _ _ us hl => match us, hl with | [_, _, _], _ => rfl⟩
theorem s__law_filled : Stat (tabOf rows) cs r__law_filled := ⟨by decide +kernel, ⟨rfl, rfl, rfl, by decide +kernel, rfl, by decide +kernel, by decide +kernel⟩, rfl, by decide, fun _ _ _ _ _ _ us hl => match us, hl with | [_, _], _ => rfl⟩
theorem s__law_rest : Stat (tabOf rows) cs r__law_rest := ⟨by decide +kernel, ⟨rfl, rfl, rfl, by decide +kernel, rfl, by decide +kernel, by decide +kernel⟩, rfl, by decide, fun _ _ _ _ _ _ us hl => match us, hl with | [_, _], _ => rfl⟩
theorem s__law_stands : Stat (tabOf rows) cs r__law_stands := ⟨by decide +kernel, ⟨rfl, rfl, rfl, by decide +kernel, rfl, by decide +kernel, by decide +kernel⟩, rfl, by decide, fun _ _ _ _ _ _ us hl => match us, hl with | [_, _, _], _ => rfl⟩
theorem s__law_alike : Stat (tabOf rows) cs r__law_alike := ⟨by decide +kernel, ⟨rfl, rfl, rfl, by decide +kernel, rfl, by decide +kernel, by decide +kernel⟩, rfl, by decide, fun _ _ _ _ _ _ us hl => match us, hl with | [_, _, _], _ => rfl⟩
theorem s__law_second : Stat (tabOf rows) cs r__law_second := ⟨by decide +kernel, ⟨rfl, rfl, rfl, by decide +kernel, rfl, by decide +kernel, by decide +kernel⟩, rfl, by decide, fun _ _ _ _ _ _ us hl => match us, hl with | [_, _, _, _, _], _ => rfl⟩
theorem s__law_good : Stat (tabOf rows) cs r__law_good := ⟨by decide +kernel, ⟨rfl, rfl, rfl, by decide +kernel, rfl, by decide +kernel, by decide +kernel⟩, rfl, by decide, fun _ _ _ _ _ _ us hl => match us, hl with | [_, _], _ => rfl⟩
theorem s_law : Stat (tabOf rows) cs r_law := ⟨by decide +kernel, ⟨rfl, rfl, rfl, by decide +kernel, rfl, by decide +kernel, by decide +kernel⟩, rfl, by decide, fun _ _ _ _ _ _ us hl => match us, hl with | [_], _ => rfl⟩
theorem stats : ∀ r ∈ rows, Stat (tabOf rows) cs r := by
  intro r h
  simp only [rows, List.mem_cons, List.not_mem_nil, or_false] at h
  rcases h with rfl | rfl | rfl | rfl | rfl | rfl | rfl | rfl | rfl | rfl | rfl | rfl | rfl | rfl | rfl | rfl | rfl | rfl | rfl | rfl | rfl | rfl | rfl | rfl | rfl | rfl
  · exact s_is_blank
  · exact s_inner
  · exact s_blanks_of
  · exact s_filled
  · exact s_bound
  · exact s_made_alike
  · exact s__law_cell
  · exact s__law_words
  · exact s__law_sorts
  · exact s__law_blanks
  · exact s__law_grown
  · exact s__law_purse
  · exact s__law_take
  · exact s__law_stream
  · exact s__law_count
  · exact s__law_term
  · exact s__law_part
  · exact s__law_places
  · exact s__law_put
  · exact s__law_filled
  · exact s__law_rest
  · exact s__law_stands
  · exact s__law_alike
  · exact s__law_second
  · exact s__law_good
  · exact s_law
def lo0 : List Str := ["is_blank", "inner", "blanks_of", "filled", "bound", "made_alike", "_law_cell", "_law_words", "_law_sorts", "_law_blanks", "_law_grown", "_law_purse", "_law_take", "_law_stream", "_law_count", "_law_term", "_law_part", "_law_places", "_law_put", "_law_filled", "_law_rest", "_law_stands", "_law_alike", "_law_second", "_law_good"]
def loose : List Str := lo0
abbrev R : PySem.W.OpenRow := PySem.W.OpenLaw.row PySem.Challenge.rw_endmeet_k15_none_alike
abbrev hk : PySem.W.Hook := He.hookE 4 (fasOf cs rows) (fnsOf rows)
def ob (s : PySem.W.SharedT) : He.Al := He.obsG 4 (fasOf cs rows) (fnsOf rows) (HandSHeadRun.getT s)
theorem ob_eq (s : PySem.W.SharedT) : ob s = hk.obs s.abs := He.obsG_eq (HandSHeadRun.getT_eq s)
theorem run (w : World) : HandSHeadRun.RunEq R (PySem.W.view R.prog [28]) hk ob 2140 loose w := by
  intro os
  kernel_rfl
end
end k15
end

section
set_option Elab.async false
set_option maxRecDepth 100000
namespace k15
open En PySem Sh Pu
noncomputable section
def frs : List Str := ["is_blank", "inner", "blanks_of", "bound", "_law_words", "_law_sorts", "_law_blanks", "_law_grown", "_law_purse", "_law_stream", "_law_count", "_law_alike", "law"]
def nxs : List Str := ["is_blank", "inner", "blanks_of", "filled", "bound", "made_alike", "_law_cell", "_law_words", "_law_sorts", "_law_blanks", "_law_grown", "_law_purse", "_law_take", "_law_stream", "_law_count", "_law_term", "_law_part", "_law_places", "_law_put", "_law_filled", "_law_rest", "_law_stands", "_law_alike", "_law_second", "_law_good", "law"]
theorem tok : okTab (tabOf rows) frs nxs = true := by decide +kernel
theorem i_is_blank : Is1 (tabOf rows) "is_blank" X_is_blank := is1_of (F := f_is_blank) (by kernel_rfl) x_is_blank
theorem i_inner : Is1 (tabOf rows) "inner" X_inner := is1_of (F := f_inner) (by kernel_rfl) x_inner
theorem i_blanks_of : Is1 (tabOf rows) "blanks_of" X_blanks_of := is1_of (F := f_blanks_of) (by kernel_rfl) x_blanks_of
theorem i_filled : Is2 (tabOf rows) "filled" X_filled := is2_of (F := f_filled) (by kernel_rfl) x_filled
theorem i_bound : Is3 (tabOf rows) "bound" X_bound := is3_of (F := f_bound) (by kernel_rfl) x_bound
theorem i_made_alike : Is2 (tabOf rows) "made_alike" X_made_alike := is2_of (F := f_made_alike) (by kernel_rfl) x_made_alike
theorem i__law_cell : Is2 (tabOf rows) "_law_cell" X__law_cell := is2_of (F := f__law_cell) (by kernel_rfl) x__law_cell
theorem i__law_words : Is1 (tabOf rows) "_law_words" X__law_words := is1_of (F := f__law_words) (by kernel_rfl) x__law_words
theorem i__law_sorts : Is1 (tabOf rows) "_law_sorts" X__law_sorts := is1_of (F := f__law_sorts) (by kernel_rfl) x__law_sorts
theorem i__law_blanks : Is1 (tabOf rows) "_law_blanks" X__law_blanks := is1_of (F := f__law_blanks) (by kernel_rfl) x__law_blanks
theorem i__law_grown : Is5 (tabOf rows) "_law_grown" X__law_grown := is5_of (F := f__law_grown) (by kernel_rfl) x__law_grown
theorem i__law_purse : Is1 (tabOf rows) "_law_purse" X__law_purse := is1_of (F := f__law_purse) (by kernel_rfl) x__law_purse
theorem i__law_take : Is2 (tabOf rows) "_law_take" X__law_take := is2_of (F := f__law_take) (by kernel_rfl) x__law_take
theorem i__law_stream : Is2 (tabOf rows) "_law_stream" X__law_stream := is2_of (F := f__law_stream) (by kernel_rfl) x__law_stream
theorem i__law_count : Is1 (tabOf rows) "_law_count" X__law_count := is1_of (F := f__law_count_k02) (by kernel_rfl) x__law_count_k02
theorem i__law_term : Is4 (tabOf rows) "_law_term" X__law_term := is4_of (F := f__law_term) (by kernel_rfl) x__law_term
theorem i__law_part : Is2 (tabOf rows) "_law_part" X__law_part := is2_of (F := f__law_part) (by kernel_rfl) x__law_part
theorem i__law_places : Is1 (tabOf rows) "_law_places" X__law_places := is1_of (F := f__law_places) (by kernel_rfl) x__law_places
theorem i__law_put : Is3 (tabOf rows) "_law_put" X__law_put := is3_of (F := f__law_put) (by kernel_rfl) x__law_put
theorem i__law_filled : Is2 (tabOf rows) "_law_filled" X__law_filled := is2_of (F := f__law_filled_k12) (by kernel_rfl) x__law_filled_k12
theorem i__law_rest : Is2 (tabOf rows) "_law_rest" X__law_rest := is2_of (F := f__law_rest) (by kernel_rfl) x__law_rest
theorem i__law_stands : Is3 (tabOf rows) "_law_stands" X__law_stands := is3_of (F := f__law_stands) (by kernel_rfl) x__law_stands
theorem i__law_alike : Is3 (tabOf rows) "_law_alike" X__law_alike := is3_of (F := f__law_alike) (by kernel_rfl) x__law_alike
theorem i__law_second : Is5 (tabOf rows) "_law_second" X__law_second := is5_of (F := f__law_second) (by kernel_rfl) x__law_second
theorem i__law_good : Is2 (tabOf rows) "_law_good" X__law_good_k15 := is2_of (F := f__law_good_k15) (by kernel_rfl) x__law_good_k15
theorem l15 : L15 (tabOf rows) := ⟨⟨i__law_cell, i__law_words, i__law_sorts, i__law_blanks⟩, ⟨⟨i__law_grown, i__law_count, i__law_term⟩, ⟨i__law_purse, i__law_take, i__law_stream⟩, i__law_filled, i__law_places, i__law_put, i__law_second⟩, ⟨⟨⟨i_is_blank, i_inner⟩, i_filled⟩, i_blanks_of, i_bound, i_made_alike⟩, ⟨i__law_rest, i__law_stands, i__law_alike⟩, i__law_good⟩
theorem the_law (ns : List Int) (h1 : ns.length ≤ 63) (h2 : ∀ z ∈ ns, PySem.Builtin.Int.intBits z ≤ 1048576) : X_law_k15 (callC (tabOf rows) 100) (.lst (ns.map D.int)) = .ok (.bl true, .non) := law15 l15 (by decide) ns
def deep : Nat := 100
theorem law_true : ∀ ns : List Int, ns.length ≤ 63 → (∀ z ∈ ns, PySem.Builtin.Int.intBits z ≤ 1048576) → En.runF (En.callN (En.tabOf rows) deep) r_law.F [(.sh, .lst (ns.map En.D.int))] = .ok (.sh, .bl true) none :=
  fun ns h1 h2 => law_sim (f := "law") tok (by decide +kernel) rfl ((x_law_k15 _ _).trans (the_law ns h1 h2))
end
end k15
end

section
open PySem PySem.W PySem.Calls PyProof.Rows
set_option maxHeartbeats 0 in
theorem PySem.Challenge.cw_endmeet_k15_none_alike_holds : PySem.Challenge.rw_endmeet_k15_none_alike.Holds := by
  w_on; o_law
  refine HandSHeadRun.head_any (r := OpenLaw.row PySem.Challenge.rw_endmeet_k15_none_alike) (q := view (OpenLaw.row PySem.Challenge.rw_endmeet_k15_none_alike).prog [28]) (H := k15.hk) (ob := k15.ob) (M := 2140) (loose := k15.loose) (d := HandSHeadRun.topDef (OpenLaw.row PySem.Challenge.rw_endmeet_k15_none_alike).prog 28) (kwd := []) k15.ob_eq
    (by kernel_rfl) (fun s => by kernel_rfl) k15.run (by kernel_rfl) (by kernel_rfl) (by kernel_rfl) (by rfl) (by first | assumption | decide +kernel) (by decide +kernel) ⟨rfl, rfl, rfl, rfl, rfl, by decide +kernel⟩ ?hw ?hc
  case hw => w_witness2
  case hc =>
    refine En.law_end (l := PySem.Challenge.rw_endmeet_k15_none_alike) (n := 63) (k := k15.deep) (rows := k15.rows) (cs := k15.cs) (r := k15.r_law) (x := "_law_script") rfl (by decide) (by kernel_rfl) ⟨rfl, by decide, by decide⟩ k15.stats (by kernel_rfl) (by simp [k15.rows]) rfl rfl (fun w mg h Y G => ?_) k15.law_true
    obtain ⟨K, KX, c⟩ := Y
    exact ⟨K, KX, En.facts_of KX G (by decide) c⟩
end
