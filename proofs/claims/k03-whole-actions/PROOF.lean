import PyProof.Rows.All
import Wide.All
import OpenK.AllK
import Wide.FinOn
import HandS.ForMost
import HandS.ForExc
import HandS.EndTab
import HandS.TupAny
import HandS.TupMul
import HandS.Deep
import HandS.Conv
import HandS.Zip
import HandS.IsInst
import HandS.TupSets
import HandS.Small
import HandS.Style
import HandS.NoneIn
import HandS.CallLocal
import HandS.IterVal
import HandS.Wide
import HandS.RaiseMore
import HandS.WideBits
import KE.KeyNested
import KE.KDictKeyed
import KE.KDictLaw
import KE.KDictWalk
import KE.GoesDict
import KE.SortData
import KE.DataCmp
import KE.DataMinMax
import KE.DataFind
import PySem.Challenge.RW_backsteps_k03_whole_actions
set_option Elab.async false
set_option linter.all false
/-! A small language of slots, and what it means: the first half of a layer of our own. -/
namespace BK
open PySem L2

/-! ### values -/
inductive D where
  | dat (d : PyData)
  | dK (kvs : List (Key × PyData))
  | dT (kvs : List (NestedKey × PyData))
  | fn (i : Nat)
  | town
  | scr

/-- what the draws have left: how many there were, and what is left of the great cells -/
structure Twn where
  cnt : Int
  rests : List (Int × Int)

inductive Res (α : Type) where
  | ok (a : α) (s : Twn)
  | exc (c : Nat) (s : Twn)
  | stuck

def M (α : Type) := Twn → Res α
def M.ret {α : Type} (a : α) : M α := fun s => .ok a s
def M.bnd {α β : Type} (x : M α) (f : α → M β) : M β := fun s => match x s with
  | .ok a s' => f a s'
  | .exc c s' => .exc c s'
  | .stuck => .stuck
instance : Monad M where
  pure := M.ret
  bind := M.bnd
def M.non {α : Type} : M α := fun _ => .stuck
def M.of {α : Type} : Option α → M α
  | some a => M.ret a
  | none => M.non
/-- nothing may be raised -/
def M.nox {α : Type} (x : M α) : M α := fun s => match x s with
  | .ok a s' => .ok a s'
  | _ => .stuck
def M.rai {α : Type} (c : Nat) : M α := fun s => .exc c s

abbrev Fun := List D → M D
abbrev Env := List (Option (Bool × D))

/-! ### the text -/
inductive BO where | add | sub | mul | mod | fdiv
  deriving DecidableEq
inductive CO where | eq | ne | lt | le | gt | ge | isin | notin
  deriving DecidableEq
inductive P1 where | len | all | tuple | list | sorted | min | str | int
  deriving DecidableEq
inductive Ty where | int | bool | tuple | str
  deriving DecidableEq
inductive Mt where | index | split | join | count
  deriving DecidableEq

inductive Tg where
  | v (i : Nat)
  | t (l : List Tg)

mutual
inductive CE where
  | cst (d : PyData)
  | gcon (x : Str) (d : PyData)
  | fnc (i : Nat)
  | var (i : Nat)
  | tup (es : CEs)
  | lst (es : CEs)
  | bin (o : BO) (a b : CE)
  | neg (a : CE)
  | cmp (o : CO) (a b : CE)
  | isN (a : CE)
  | notN (a : CE)
  | chn (a b c : CE)
  | and (es : CEs)
  | or (es : CEs)
  | not (a : CE)
  | ite (c a b : CE)
  | idx (a b : CE)
  | slL (a lo : CE)
  | slH (a hi : CE)
  | sl2 (a lo hi : CE)
  | slR (a : CE)
  | lc (own : List Nat) (tg : Tg) (it : CI) (elt : CE)
  | lcIf (own : List Nat) (tg : Tg) (it : CI) (cond elt : CE)
  | call (f : Nat) (es : CEs)
  | callv (i : Nat) (es : CEs)
  | p1 (p : P1) (a : CE)
  | lrng (a : CE)
  | trng (a : CE)
  | isi (a : CE) (t : Ty)
  | meth (m : Mt) (a b : CE)
  | dget (d k x : CE)
  | ssort (a : CE)
  | lset (a : CE)
  | dke (a : CE)
  | lenum (a : CE)
  | dnew
  | done (k v : CE)
  | res (e : CE)
inductive CEs where
  | nil
  | cons (e : CE) (r : CEs)
inductive CI where
  | seq (e : CE)
  | rng (e : CE)
  | enum (e : CE)
  | zip (a b : CE)
  | keys (e : CE)
end

mutual
inductive CS where
  | asg (tg : Tg) (e : CE)
  | own (i : Nat) (e : CE)
  | par (ts : List Nat) (es : CEs)
  | sto (i : Nat) (k e : CE)
  | app (i : Nat) (e : CE)
  | ext (i : Nat) (e : CE)
  | frz (is : List Nat)
  | iff (c : CE) (a b : CSs)
  | for (tg : Tg) (it : CI) (body : CSs)
  | forF (i : Nat) (fs : List Nat) (body : CSs)
  | whl (c : CE) (body : CSs)
  | ret (e : CE)
  | rai (c : Nat)
  | exp (e : CE)
  | pass
  | stk
inductive CSs where
  | nil
  | cons (s : CS) (r : CSs)
end

/-! ### what the operations give -/
abbrev bl (b : Bool) : D := .dat (.bool b)
abbrev int (i : Int) : D := .dat (.int i)
abbrev tup (ds : List PyData) : D := .dat (.tuple ds)
abbrev lst (ds : List PyData) : D := .dat (.list ds)
abbrev str (x : Str) : D := .dat (.str x)
abbrev non : D := .dat .none

/-- not too deep -/
def okD (d : PyData) : Bool := decide (d.depth ≤ 60)

mutual
/-- the key that data is (no bools, no lists) -/
def nk : PyData → Option NestedKey
  | .none => some .none
  | .int i => some (.num i)
  | .str x => some (.text x)
  | .tuple ds => (nks ds).map .tup
  | _ => none
def nks : List PyData → Option (List NestedKey)
  | [] => some []
  | d :: ds => match nk d, nks ds with
    | some k, some r => some (k :: r)
    | _, _ => none
end
/-- a tuple of depth 8 at most, as a key -/
def nkey (d : PyData) : Option NestedKey := match d with
  | .tuple _ => (nk d).bind fun k => if k.depth ≤ 8 then some k else none
  | _ => none
def kkey : PyData → Option Key
  | .int i => some (.inl i)
  | .str x => some (.inr x)
  | _ => none

def lookT {κ : Type} [DecidableEq κ] (kvs : List (κ × PyData)) (k : κ) : Option PyData := (kvs.find? fun p => decide (p.1 = k)).map (·.2)
def putT {κ : Type} [DecidableEq κ] (kvs : List (κ × PyData)) (k : κ) (v : PyData) : List (κ × PyData) :=
  if (lookT kvs k).isSome then kvs.map fun p => if p.1 = k then (p.1, v) else p else kvs ++ [(k, v)]

def cut {α : Type} (xs : List α) (lo hi : Option Int) : List α := (xs.drop (HT.sIx xs.length 0 lo)).take (HT.sIx xs.length xs.length hi - HT.sIx xs.length 0 lo)

def line : Nat := sizeLine
def fits {α : Type} (xs : List α) : Bool := decide (xs.length ≤ sizeLine)

def opAdd : D → D → Option D
  | .dat (.int i), .dat (.int j) => some (int (i + j))
  | .dat (.str x), .dat (.str y) => if x.length + y.length ≤ sizeLine then some (str (x ++ y)) else none
  | .dat (.tuple xs), .dat (.tuple ys) => if xs.length + ys.length ≤ sizeLine then some (tup (xs ++ ys)) else none
  | .dat (.list xs), .dat (.list ys) => if xs.length + ys.length ≤ sizeLine then some (lst (xs ++ ys)) else none
  | _, _ => none
def opSub : D → D → Option D
  | .dat (.int i), .dat (.int j) => some (int (i - j))
  | _, _ => none
def opMul : D → D → Option D
  | .dat (.tuple xs), .dat (.int k) => if xs ≠ [] ∧ 1 ≤ k ∧ k ≤ 1000 ∧ xs.length ≤ 1000 then some (tup (List.replicate k.toNat xs).flatten) else none
  | .dat (.list xs), .dat (.int k) => if 0 ≤ k ∧ k ≤ 1000 ∧ xs.length ≤ 1000 then some (lst (List.replicate k.toNat xs).flatten) else none
  | _, _ => none
def opMod : D → D → Option D
  | .dat (.int i), .dat (.int j) => if 0 < j then some (int (i % j)) else none
  | _, _ => none
def opFdiv : D → D → Option D
  | .dat (.int i), .dat (.int j) => if 0 < j ∧ j < 1073741824 then some (int (i / j)) else none
  | _, _ => none
def opBin : BO → D → D → Option D
  | .add => opAdd
  | .sub => opSub
  | .mul => opMul
  | .mod => opMod
  | .fdiv => opFdiv

def cmpOk (a b : PyData) : Bool := W.alike a b && okD a && okD b

def opEq : D → D → Option Bool
  | .dat a, .dat b => if okD a && okD b then some (PyData.eqv a b) else none
  | _, _ => none
def opLt : D → D → Option Bool
  | .dat (.int i), .dat (.int j) => some (decide (i < j))
  | .dat (.tuple xs), .dat (.tuple ys) => if cmpOk (.tuple xs) (.tuple ys) then some (W.dataLt (.tuple xs) (.tuple ys)) else none
  | _, _ => none
def opLe : D → D → Option Bool
  | .dat (.int i), .dat (.int j) => some (decide (i ≤ j))
  | .dat (.tuple xs), .dat (.tuple ys) => if cmpOk (.tuple xs) (.tuple ys) then some (!W.dataLt (.tuple ys) (.tuple xs)) else none
  | _, _ => none
def opGt : D → D → Option Bool
  | .dat (.int i), .dat (.int j) => some (decide (j < i))
  | _, _ => none
def opGe : D → D → Option Bool
  | .dat (.int i), .dat (.int j) => some (decide (j ≤ i))
  | _, _ => none
def opIn : D → D → Option Bool
  | .dat a, .dat (.list ds) => if okD a && okD (.list ds) then some (ds.any fun z => PyData.eqv z a) else none
  | .dat a, .dat (.tuple ds) => if okD a && okD (.tuple ds) then some (ds.any fun z => PyData.eqv z a) else none
  | .dat a, .dT kvs => (nkey a).map fun k => (lookT kvs k).isSome
  | _, _ => none
def opCmp : CO → D → D → Option Bool
  | .eq => opEq
  | .ne => fun x y => (opEq x y).map (!·)
  | .lt => opLt
  | .le => opLe
  | .gt => opGt
  | .ge => opGe
  | .isin => opIn
  | .notin => fun x y => (opIn x y).map (!·)

def opIdx : D → D → Option D
  | .dat (.list xs), .dat (.int i) => (atI xs i).map .dat
  | .dat (.tuple xs), .dat (.int i) => (atI xs i).map .dat
  | .dat (.str z), .dat (.int i) => if z.length ≤ sizeLine then (atI z.cps.toList i).map fun c => str ⟨#[c]⟩ else none
  | .dK kvs, .dat d => (kkey d).bind fun k => (lookT kvs k).map .dat
  | .dT kvs, .dat d => (nkey d).bind fun k => (lookT kvs k).map .dat
  | _, _ => none

def opCut : D → Option Int → Option Int → Option D
  | .dat (.list xs), lo, hi => some (lst (cut xs lo hi))
  | .dat (.tuple xs), lo, hi => some (tup (cut xs lo hi))
  | .dat (.str z), lo, hi => if z.length ≤ sizeLine then some (str (cutS z lo hi)) else none
  | _, _, _ => none

def opRev : D → Option D
  | .dat (.list xs) => some (lst xs.reverse)
  | .dat (.tuple xs) => some (tup xs.reverse)
  | _ => none

def bools : List PyData → Option (List Bool)
  | [] => some []
  | .bool b :: r => (bools r).map (b :: ·)
  | _ => none

/-- data that may be sorted: alike, and all tuples with an item at least, or none a tuple or None -/
def sortable (ds : List PyData) : Bool :=
  fits ds && (ds.all fun a => ds.all fun b => W.alike a b) && (ds.all fun d => okD d) &&
    ((ds.all fun d => match d with | .tuple (_ :: _) => true | _ => false) || (ds.all fun d => match d with | .tuple _ => false | .none => false | _ => true))
def sortD (ds : List PyData) : List PyData := ds.mergeSort (W.dataLe false id)

def setOf : List PyData → List PyData
  | [] => []
  | d :: ds => d :: (setOf ds).filter fun e => !PyData.eqv d e

def isTy : Ty → PyData → Bool
  | .int, .int _ => true
  | .int, .bool _ => true
  | .bool, .bool _ => true
  | .tuple, .tuple _ => true
  | .str, .str _ => true
  | _, _ => false

def opLen : D → Option D
  | .dat (.list xs) => some (int xs.length)
  | .dat (.tuple xs) => some (int xs.length)
  | .dat (.str z) => if z.length ≤ sizeLine then some (int z.length) else none
  | _ => none
def opAll : D → Option D
  | .dat (.list xs) => (bools xs).map fun bs => bl (bs.all id)
  | _ => none
def opTuple : D → Option D
  | .dat (.list xs) => some (tup xs)
  | .dat (.tuple xs) => some (tup xs)
  | _ => none
def opList : D → Option D
  | .dat (.list xs) => some (lst xs)
  | .dat (.tuple xs) => some (lst xs)
  | _ => none
def opSorted : D → Option D
  | .dat (.list xs) => if sortable xs then some (lst (sortD xs)) else none
  | _ => none
def opMin : D → Option D
  | .dat (.list (x :: xs)) => if sortable (x :: xs) then some (.dat (W.minD x xs)) else none
  | _ => none
def opStr : D → Option D
  | .dat (.int i) => if i.natAbs < 1000000 then some (str (toString i : String)) else none
  | .dat (.str x) => some (str x)
  | _ => none
def opInt : D → Option D
  | .dat (.str x) => if x.length ≤ 640 then (intText? x).map int else none
  | _ => none
def opP1 : P1 → D → Option D
  | .len => opLen
  | .all => opAll
  | .tuple => opTuple
  | .list => opList
  | .sorted => opSorted
  | .min => opMin
  | .str => opStr
  | .int => opInt

/-- places of the keys of a set that is sorted -/
def opSet : D → Option (List PyData)
  | .dat (.list xs) => if sortable xs && decide (xs.length < 64) && (xs.all fun d => (nkey d).isSome) then some (sortD (setOf xs)) else none
  | .dat (.tuple xs) => if sortable xs && decide (xs.length < 64) && (xs.all fun d => (nkey d).isSome) then some (sortD (setOf xs)) else none
  | _ => none

def intL : List PyData → Option (List Int)
  | [] => some []
  | .int i :: r => (intL r).map (i :: ·)
  | _ => none
def intTs : List PyData → Option (List (List Int))
  | [] => some []
  | .tuple l :: r => match intL l, intTs r with
    | some x, some xs => some (x :: xs)
    | _, _ => none
  | _ => none
/-- without what comes again -/
def once (l : List (List Int)) : List (List Int) := match l with
  | [] => []
  | x :: xs => if x ∈ xs then once xs else x :: once xs
/-- len(set(x)), a list of tuples of ints -/
def opLset : D → Option D
  | .dat (.list xs) => if xs.length < 64 then (intTs xs).map fun l => int (once l).length else none
  | _ => none

def enumFrom' (i : Nat) : List PyData → List PyData
  | [] => []
  | d :: ds => .tuple [.int i, d] :: enumFrom' (i + 1) ds

def zipD : List PyData → List PyData → List PyData
  | a :: as, b :: bs => .tuple [a, b] :: zipD as bs
  | _, _ => []

def rngD (n : Int) : List PyData := (List.range n.toNat).map fun (i : Nat) => .int (i : Int)

def indexD : List PyData → PyData → Option Nat
  | [], _ => none
  | x :: xs, d => if PyData.eqv x d then some 0 else (indexD xs d).map (· + 1)

def seqOf : D → Option (List PyData)
  | .dat (.list xs) => some xs
  | .dat (.tuple xs) => some xs
  | _ => none

def datL : List D → Option (List PyData)
  | [] => some []
  | .dat d :: r => (datL r).map (d :: ·)
  | _ => none

def strsOf : List PyData → Option (List Str)
  | [] => some []
  | .str x :: r => (strsOf r).map (x :: ·)
  | _ => none

def opIndex : D → D → Option D
  | .dat (.list xs), .dat d => if okD d && okD (.list xs) then (indexD xs d).map fun (i : Nat) => int i else none
  | .dat (.tuple xs), .dat d => if okD d && okD (.tuple xs) then (indexD xs d).map fun (i : Nat) => int i else none
  | _, _ => none
def opSplit : D → D → Option D
  | .dat (.str a), .dat (.str b) => if b.length ≠ 0 ∧ a.length + 2 ≤ sizeLine then some (lst ((Txt.split a b).map .str)) else none
  | _, _ => none
def opJoin : D → D → Option D
  | .dat (.str a), .dat (.list ys) => (strsOf ys).bind fun zs => if (zs.map (·.length)).sum + zs.length * a.length ≤ 16777216 then some (str (Txt.join a zs)) else none
  | _, _ => none
def opCount : D → D → Option D
  | .dat (.str a), .dat (.str b) => some (int (Txt.count a b))
  | _, _ => none
def opMt : Mt → D → D → Option D
  | .index => opIndex
  | .split => opSplit
  | .join => opJoin
  | .count => opCount

def resName : Nat → Str
  | 0 => "items" | 1 => "action" | 2 => "state" | 3 => "plan" | 4 => "guards" | 5 => "start" | 6 => "run" | 7 => "order" | 8 => "outcome" | 9 => "text" | 10 => "ended" | _ => "undo"

/-! ### names -/
def setE (env : Env) (i : Nat) (d : D) : Env := env.set i (some (false, d))
mutual
def tgSl : Tg → List Nat
  | .v i => [i]
  | .t ts => tgSls ts
def tgSls : List Tg → List Nat
  | [] => []
  | t :: ts => tgSl t ++ tgSls ts
end
mutual
def bindTg : Tg → PyData → Env → Option Env
  | .v i, d, env => some (setE env i (.dat d))
  | .t ts, .tuple ds, env => bindTgs ts ds env
  | .t _, _, _ => none
def bindTgs : List Tg → List PyData → Env → Option Env
  | [], [], env => some env
  | t :: ts, d :: ds, env => (bindTg t d env).bind (bindTgs ts ds)
  | _, _, _ => none
end
def wipeE (env : Env) : List Nat → Env
  | [] => env
  | i :: is => (wipeE env is).set i none
def frzE (env : Env) : List Nat → Env
  | [] => env
  | i :: is => match (frzE env is)[i]? with
    | some (some (_, d)) => (frzE env is).set i (some (false, d))
    | _ => frzE env is

/-- none of the slots is still written -/
def ownFree (env : Env) (l : List Nat) : Bool := l.all fun i => match env[i]? with
  | some (some (true, _)) => false
  | _ => true

def isNon : PyData → Bool
  | .none => true
  | _ => false
def truth : D → M Bool
  | .dat (.bool b) => M.ret b
  | _ => M.non

/-- the turns of a comprehension -/
def lcGo (turn : PyData → M (Option PyData)) : List PyData → M (List PyData)
  | [] => M.ret []
  | x :: xs => do
    let y ← turn x
    let r ← lcGo turn xs
    M.ret (match y with | some y => y :: r | none => r)

inductive Fl where
  | nx (env : Env)
  | rt (d : D)

def forGo (turn : PyData → Env → M Fl) : List PyData → Env → M Fl
  | [], env => M.ret (.nx env)
  | x :: xs, env => do
    match ← turn x env with
    | .nx env' => forGo turn xs env'
    | .rt d => M.ret (.rt d)

def forFGo (turn : Nat → Env → M Fl) : List Nat → Env → M Fl
  | [], env => M.ret (.nx env)
  | x :: xs, env => do
    match ← turn x env with
    | .nx env' => forFGo turn xs env'
    | .rt d => M.ret (.rt d)

def whGo (c : Env → M Bool) (body : Env → M Fl) : Nat → Env → M Fl
  | 0, _ => M.non
  | n + 1, env => do
    if ← c env then
      match ← body env with
      | .nx env' => whGo c body n env'
      | .rt d => M.ret (.rt d)
    else M.ret (.nx env)

def enumM : D → M (List PyData)
  | .dat (.tuple ds) => M.ret (enumFrom' 0 ds)
  | _ => M.non
def zipM : D → D → M (List PyData)
  | .dat (.tuple xs), .dat (.tuple ys) => M.ret (zipD xs ys)
  | _, _ => M.non
def keysM : D → M (List PyData)
  | .dT kvs => M.ret (kvs.map fun p => p.1.data)
  | _ => M.non
def datOf : D → M PyData
  | .dat d => M.ret d
  | _ => M.non
def intOf : D → M Int
  | .dat (.int i) => M.ret i
  | _ => M.non

/-! ### the meaning -/
section
variable (G : Nat → Fun)
mutual
def ev (md : Bool) : CE → Env → M D
  | .cst d, _ => M.ret (.dat d)
  | .gcon _ d, _ => M.ret (.dat d)
  | .fnc i, _ => M.ret (.fn i)
  | .var i, env => match env[i]? with
    | some (some (o, d)) => if md && o then M.non else M.ret d
    | _ => M.non
  | .tup es, env => do
    let ds ← evs es env
    let ds ← M.of (datL ds)
    if fits ds then M.ret (tup ds) else M.non
  | .lst es, env => do
    let ds ← evs es env
    let ds ← M.of (datL ds)
    if fits ds then M.ret (lst ds) else M.non
  | .bin o a b, env => do
    let x ← ev false a env
    let y ← ev false b env
    M.of (opBin o x y)
  | .neg a, env => do
    let i ← intOf (← ev false a env)
    M.ret (int (-i))
  | .cmp o a b, env => do
    let x ← ev false a env
    let y ← ev false b env
    let r ← M.of (opCmp o x y)
    M.ret (bl r)
  | .isN a, env => do
    let x ← datOf (← ev false a env)
    M.ret (bl (isNon x))
  | .notN a, env => do
    let x ← datOf (← ev false a env)
    M.ret (bl (!isNon x))
  | .chn a b c, env => do
    let x ← intOf (← ev false a env)
    let y ← intOf (← ev false b env)
    if x ≤ y then
      let z ← intOf (← ev false c env)
      M.ret (bl (decide (y ≤ z)))
    else M.ret (bl false)
  | .and es, env => do
    let r ← evAnd es env
    M.ret (bl r)
  | .or es, env => do
    let r ← evOr es env
    M.ret (bl r)
  | .not a, env => do
    let r ← truth (← ev true a env)
    M.ret (bl (!r))
  | .ite c a b, env => do
    if ← truth (← ev true c env) then ev md a env else ev md b env
  | .idx a b, env => do
    let x ← ev false a env
    let y ← ev false b env
    M.of (opIdx x y)
  | .slL a lo, env => do
    let x ← ev false a env
    let i ← intOf (← ev false lo env)
    M.of (opCut x (some i) none)
  | .slH a hi, env => do
    let x ← ev false a env
    let i ← intOf (← ev false hi env)
    M.of (opCut x none (some i))
  | .sl2 a lo hi, env => do
    let x ← ev false a env
    let i ← intOf (← ev false lo env)
    let j ← intOf (← ev false hi env)
    M.of (opCut x (some i) (some j))
  | .slR a, env => do
    let x ← ev false a env
    M.of (opRev x)
  | .lc own tg it elt, env => do
    let xs ← evI false it env
    if ownFree env own then
      let r ← lcGo (fun x => M.nox (do
        let e ← M.of (bindTg tg x (wipeE env own))
        let y ← datOf (← ev true elt e)
        M.ret (some y))) xs
      if fits r then M.ret (lst r) else M.non
    else M.non
  | .lcIf own tg it cond elt, env => do
    let xs ← evI false it env
    if ownFree env own then
      let r ← lcGo (fun x => M.nox (do
        let e ← M.of (bindTg tg x (wipeE env own))
        if ← truth (← ev true cond e) then (do let y ← datOf (← ev true elt e); M.ret (some y)) else M.ret none)) xs
      if fits r then M.ret (lst r) else M.non
    else M.non
  | .call f es, env => do
    let ds ← evs es env
    G f ds
  | .callv i es, env => do
    match env[i]? with
    | some (some (_, .fn f)) =>
      let ds ← evs es env
      G f ds
    | _ => M.non
  | .p1 p a, env => do
    let x ← ev false a env
    M.of (opP1 p x)
  | .lrng a, env => do
    let n ← intOf (← ev false a env)
    if 0 ≤ n ∧ n ≤ 1000 then M.ret (lst (rngD n)) else M.non
  | .trng a, env => do
    let n ← intOf (← ev false a env)
    if 0 ≤ n ∧ n ≤ 1000 then M.ret (tup (rngD n)) else M.non
  | .isi a t, env => do
    let x ← datOf (← ev false a env)
    M.ret (bl (isTy t x))
  | .meth m a b, env => do
    let x ← ev false a env
    let y ← ev false b env
    M.of (opMt m x y)
  | .dget d k x, env => do
    let m ← ev false d env
    let y ← ev true k env
    let z ← datOf (← ev true x env)
    match m, y with
    | .dT kvs, .dat y => (do let k ← M.of (nkey y); M.ret (.dat ((lookT kvs k).getD z)))
    | _, _ => M.non
  | .ssort a, env => do
    let x ← ev false a env
    let r ← M.of (opSet x)
    M.ret (lst r)
  | .lset a, env => do
    let x ← ev false a env
    M.of (opLset x)
  | .dke a, env => do
    let x ← ev false a env
    match x with
    | .dat (.tuple ds) => if ds.length ≤ 1000 then M.ret (.dK (ds.zipIdx.map fun p => (Sum.inl (p.2 : Int), p.1))) else M.non
    | _ => M.non
  | .lenum a, env => do
    let x ← ev false a env
    match x with
    | .dat (.tuple ds) => if ds.length ≤ 1000 then M.ret (lst (enumFrom' 0 ds)) else M.non
    | _ => M.non
  | .dnew, _ => M.ret (.dT [])
  | .done k v, env => do
    let y ← datOf (← ev true k env)
    let z ← datOf (← ev true v env)
    let k ← M.of (nkey y)
    M.ret (.dT [(k, z)])
  | .res e, env => fun s => match ev true e env s with
    | .ok (.dat d) s' => .ok (tup [.str "returns", d]) s'
    | .ok _ _ => .stuck
    | .exc c s' => .ok (tup [.str (resName c)]) s'
    | .stuck => .stuck
def evs : CEs → Env → M (List D)
  | .nil, _ => M.ret []
  | .cons e r, env => do
    let x ← ev true e env
    let xs ← evs r env
    M.ret (x :: xs)
def evAnd : CEs → Env → M Bool
  | .nil, _ => M.ret true
  | .cons e r, env => do
    if ← truth (← ev true e env) then evAnd r env else M.ret false
def evOr : CEs → Env → M Bool
  | .nil, _ => M.ret false
  | .cons e r, env => do
    if ← truth (← ev true e env) then M.ret true else evOr r env
def evI (md : Bool) : CI → Env → M (List PyData)
  | .seq e, env => do
    let x ← ev md e env
    M.of (seqOf x)
  | .rng e, env => do
    let n ← intOf (← ev true e env)
    if n ≤ 1000 ∧ -1000 ≤ n then M.ret (rngD n) else M.non
  | .enum e, env => do
    let x ← ev true e env
    enumM x
  | .zip a b, env => do
    let x ← ev true a env
    let y ← ev true b env
    zipM x y
  | .keys e, env => do
    let x ← ev md e env
    keysM x
end

/-- several names at once -/
def parE : List Nat → List D → Env → Env
  | i :: ts, d :: ds, env => parE ts ds (setE env i d)
  | _, _, env => env

def stoD : D → PyData → PyData → Option D
  | .dat (.list xs), .int i, d => (ixN xs.length i).map fun j => lst (xs.set j d)
  | _, _, _ => none
/-- what is still written -/
def ownD (env : Env) (i : Nat) : Option D := match env[i]? with
  | some (some (true, d)) => some d
  | _ => none
def ownL (env : Env) (i : Nat) : Option (List PyData) := match env[i]? with
  | some (some (true, .dat (.list xs))) => some xs
  | _ => none
def listD : D → Option (List PyData)
  | .dat (.list ys) => some ys
  | _ => none

variable (fu : Nat)
mutual
def ex : CS → Env → M Fl
  | .asg tg e, env => do
    match tg with
    | .v i => (do let d ← ev G true e env; M.ret (.nx (setE env i d)))
    | .t ts => (do
      let d ← datOf (← ev G true e env)
      let env' ← M.of (bindTg (.t ts) d env)
      M.ret (.nx env'))
  | .own i e, env => do
    let d ← ev G true e env
    M.ret (.nx (env.set i (some (true, d))))
  | .par ts es, env => do
    let ds ← evs G es env
    if ds.length = ts.length then M.ret (.nx (parE ts ds env)) else M.non
  | .sto i k e, env => do
    let d ← datOf (← ev G true e env)
    let m ← M.of (ownD env i)
    let y ← datOf (← ev G true k env)
    let m' ← M.of (stoD m y d)
    M.ret (.nx (env.set i (some (true, m'))))
  | .app i e, env => do
    let xs ← M.of (ownL env i)
    let d ← datOf (← ev G true e env)
    if xs.length < sizeLine then M.ret (.nx (env.set i (some (true, lst (xs ++ [d]))))) else M.non
  | .ext i e, env => do
    let xs ← M.of (ownL env i)
    let ys ← M.of (listD (← ev G true e env))
    if xs.length + ys.length ≤ sizeLine then M.ret (.nx (env.set i (some (true, lst (xs ++ ys))))) else M.non
  | .frz is, env => M.ret (.nx (frzE env is))
  | .iff c a b, env => do
    if ← truth (← ev G true c env) then exs a env else exs b env
  | .for tg it body, env => do
    let xs ← evI G true it env
    forGo (fun x env => do
      let env' ← M.of (bindTg tg x env)
      exs body env') xs env
  | .forF i fs body, env => forFGo (fun f env => exs body (setE env i (.fn f))) fs env
  | .whl c body, env => whGo (fun env => do truth (← ev G true c env)) (fun env => exs body env) fu env
  | .ret e, env => do
    let d ← ev G true e env
    M.ret (.rt d)
  | .rai c, _ => M.rai c
  | .exp e, env => do
    let _ ← ev G true e env
    M.ret (.nx env)
  | .pass, env => M.ret (.nx env)
  | .stk, _ => M.non
def exs : CSs → Env → M Fl
  | .nil, env => M.ret (.nx env)
  | .cons s r, env => do
    match ← ex s env with
    | .nx env' => exs r env'
    | .rt d => M.ret (.rt d)
end
end

/-- a def: how many parameters, how many slots, its body -/
structure CF where
  np : Nat
  ns : Nat
  body : CSs

def runF (G : Nat → Fun) (fu : Nat) (f : CF) : Fun := fun ds =>
  if ds.length = f.np then do
    match ← exs G fu f.body (ds.map (fun d => some (false, d)) ++ List.replicate (f.ns - f.np) none) with
    | .nx _ => M.ret non
    | .rt d => M.ret d
  else M.non
end BK
set_option Elab.async false
set_option linter.all false
set_option maxRecDepth 100000
/-! What the values of the small language are in the abstract heap. -/
namespace BK
open PySem L2

abbrev St := L2.St
/-! ### the monad -/
def Wp {α : Type} (r : Res α) (Q : α → Twn → Prop) (E : Nat → Twn → Prop) : Prop := match r with
  | .ok a s => Q a s
  | .exc c s => E c s
  | .stuck => False
theorem Wp.bnd {α β : Type} {x : M α} {f : α → M β} {s : Twn} {Q : β → Twn → Prop} {E : Nat → Twn → Prop} (h : Wp ((x >>= f) s) Q E) : Wp (x s) (fun a s' => Wp (f a s') Q E) E := by
  show Wp (x s) _ _
  have h : Wp (M.bnd x f s) Q E := h
  unfold M.bnd at h
  cases e : x s with
  | ok a s' => rw [e] at h; exact h
  | exc c s' => rw [e] at h; exact h
  | stuck => rw [e] at h; exact h
theorem Wp.mono {α : Type} {r : Res α} {Q Q' : α → Twn → Prop} {E E' : Nat → Twn → Prop} (h : Wp r Q E) (hq : ∀ a s, Q a s → Q' a s) (he : ∀ c s, E c s → E' c s) : Wp r Q' E' := by
  cases r with
  | ok a s => exact hq a s h
  | exc c s => exact he c s h
  | stuck => exact h.elim
theorem Wp.of {α : Type} {o : Option α} {s : Twn} {Q : α → Twn → Prop} {E : Nat → Twn → Prop} (h : Wp (M.of o s) Q E) : ∃ a, o = some a ∧ Q a s := by
  cases o with
  | none => exact h.elim
  | some a => exact ⟨a, rfl, h⟩
theorem Wp.iff {α : Type} {c : Prop} [Decidable c] {x y : M α} {s : Twn} {Q : α → Twn → Prop} {E : Nat → Twn → Prop} (h : Wp ((if c then x else y) s) Q E) : (c ∧ Wp (x s) Q E) ∨ (¬ c ∧ Wp (y s) Q E) := by
  by_cases hc : c
  · rw [if_pos hc] at h; exact .inl ⟨hc, h⟩
  · rw [if_neg hc] at h; exact .inr ⟨hc, h⟩
theorem Wp.ifN {α : Type} {c : Prop} [Decidable c] {x : M α} {s : Twn} {Q : α → Twn → Prop} {E : Nat → Twn → Prop} (h : Wp ((if c then x else M.non) s) Q E) : c ∧ Wp (x s) Q E := by
  rcases h.iff with h | ⟨_, h⟩
  · exact h
  · exact h.elim

/-! ### what stays -/
structure Tn where
  ta : Addr
  ra : Addr
  tabs : List (Addr × Str)
  sa : Addr
  fa : Nat → Addr
  cl : Nat → Value
  scr : List Int
  dy : Bool
  K : PySem.W.Frag
def Tn.T (τ : Tn) (a : Addr) : Prop := a = τ.ta ∨ a = τ.ra
/-- the script, too, unless it is of the frame of all things -/
def Tn.U (τ : Tn) (a : Addr) : Prop := τ.T a ∨ (τ.dy = true ∧ a = τ.sa)
def Scr (τ : Tn) (H : Hp) : Prop := if τ.dy = true then Rd H τ.sa (.lst (τ.scr.map V.int)) else SqL τ.K (fun _ => none) τ.sa (τ.scr.map V.int)
theorem Scr.seq {τ : Tn} {H : Hp} (h : Scr τ H) : SqL τ.K H τ.sa (τ.scr.map V.int) := by
  unfold Scr at h
  split at h
  · exact .inl h
  · rcases h with (h | ⟨o, h⟩) | h
    · cases h
    · cases h
    · exact .inr h
/-- the object o, as it is -/
def ObO (a : Addr) (o : Obj) : HO := .ext fun h => h.get? a = some o

def TownR (τ : Tn) (H : Hp) (s : Twn) : Prop :=
  H τ.ta = some (.dK [(.inr "count", .int s.cnt), (.inr "rests", .ref τ.ra)]) ∧ H τ.ra = some (.dK (s.rests.map fun p => (.inl p.1, .int p.2))) ∧ τ.ta ≠ τ.ra ∧ LamX.Tabs τ.tabs H ∧ Scr τ H
/-- nothing but new objects -/
def Al (H H' : Hp) : Prop := ∀ a o, H a = some o → H' a = some o
/-- what is not in S stays -/
def Ke (S : Addr → Prop) (H H' : Hp) : Prop := (∀ a o, ¬ S a → (∀ ps, o ≠ .tbl ps) → H a = some o → H' a = some o) ∧ (∀ a, H a ≠ none → H' a ≠ none) ∧ ∀ a xs, Rd H a (.tup xs) → Rd H' a (.tup xs)
abbrev Xt (τ : Tn) (H H' : Hp) : Prop := Ke τ.T H H'
theorem Ke.mono {S S' : Addr → Prop} {H H' : Hp} (h : Ke S H H') (hs : ∀ a, S a → S' a) : Ke S' H H' := ⟨fun a o n => h.1 a o fun z => n (hs a z), h.2⟩
theorem Ke.trans {S : Addr → Prop} {H H1 H2 : Hp} (a : Ke S H H1) (b : Ke S H1 H2) : Ke S H H2 := ⟨fun c o h1 h2 e => b.1 c o h1 h2 (a.1 c o h1 h2 e), fun c n => b.2.1 c (a.2.1 c n), fun c xs h => b.2.2 c xs (a.2.2 c xs h)⟩
/-- what is new may be written, too -/
theorem Ke.ext {S S' : Addr → Prop} {H H1 H2 : Hp} (a : Ke S H H1) (b : Ke S' H1 H2) (hs : ∀ c, S' c → S c ∨ H c = none) : Ke S H H2 :=
  ⟨fun c o h1 h2 e => b.1 c o (fun z => (hs c z).elim h1 fun z => by rw [z] at e; cases e) h2 (a.1 c o h1 h2 e), fun c n => b.2.1 c (a.2.1 c n), fun c xs h => b.2.2 c xs (a.2.2 c xs h)⟩
theorem Al.refl (H : Hp) : Al H H := fun _ _ h => h
theorem Al.trans {H H1 H2 : Hp} (a : Al H H1) (b : Al H1 H2) : Al H H2 := fun c o h => b c o (a c o h)
theorem Al.new {H : Hp} {p : Addr} {o : HO} (h : H p = none) : Al H (upd H p o) := fun b x e => by
  rw [upd_ne (ne_of_none e h)]; exact e
theorem Al.rd {H H' : Hp} (h : Al H H') {a : Addr} {x : HO} (r : Rd H a x) : Rd H' a x := r.imp (h a _) fun ⟨o, e⟩ => ⟨o, h a _ e⟩
theorem Al.ke {S : Addr → Prop} {H H' : Hp} (h : Al H H') : Ke S H H' := ⟨fun a o _ _ e => h a o e, fun a n => (by
  cases q : H a with
  | none => exact absurd q n
  | some o => rw [h a o q]; simp), fun _ _ r => h.rd r⟩
theorem Scr.al {τ : Tn} {H H' : Hp} (t : Scr τ H) (h : Al H H') : Scr τ H' := by
  unfold Scr at t ⊢
  split
  · rw [if_pos (by assumption)] at t
    exact h.rd t
  · rw [if_neg (by assumption)] at t
    exact t
theorem Al.xt {τ : Tn} {H H' : Hp} (h : Al H H') : Xt τ H H' := h.ke
theorem Xt.refl {τ : Tn} (H : Hp) : Xt τ H H := (Al.refl H).xt
theorem Al.town {τ : Tn} {H H' : Hp} {s : Twn} (h : Al H H') (t : TownR τ H s) : TownR τ H' s := ⟨h _ _ t.1, h _ _ t.2.1, t.2.2.1, t.2.2.2.1.ext h, t.2.2.2.2.al h⟩
theorem TownR.ne {τ : Tn} {H : Hp} {s : Twn} (t : TownR τ H s) {a : Addr} (h : τ.U a) : H a ≠ none := by
  rcases h with (rfl | rfl) | ⟨h, rfl⟩
  · rw [t.1]; simp
  · rw [t.2.1]; simp
  · have z := t.2.2.2.2
    unfold Scr at z
    rw [if_pos h] at z
    rcases z with z | ⟨o, z⟩ <;> rw [z] <;> simp

/-! ### data -/
mutual
inductive Dr (K : PySem.W.Frag) (S : Addr → Prop) (H : Hp) : V → PyData → Prop
  | non : Dr K S H .non .none
  | bl (b : Bool) : Dr K S H (.bl b) (.bool b)
  | int (i : Int) : Dr K S H (.int i) (.int i)
  | str (x : Str) : Dr K S H (.str x) (.str x)
  | lst {a : Addr} {xs : List V} {ds : List PyData} : H a = some (.lst xs) → ¬ S a → Drs K S H xs ds → Dr K S H (.ref a) (.list ds)
  | tup {a : Addr} {xs : List V} {ds : List PyData} : SqT K H a xs → Drs K S H xs ds → Dr K S H (.ref a) (.tuple ds)
inductive Drs (K : PySem.W.Frag) (S : Addr → Prop) (H : Hp) : List V → List PyData → Prop
  | nil : Drs K S H [] []
  | cons {v : V} {vs : List V} {d : PyData} {ds : List PyData} : Dr K S H v d → Drs K S H vs ds → Drs K S H (v :: vs) (d :: ds)
end
/-- the items may be kept, the list itself may be one that is still written -/
def DrI (K : PySem.W.Frag) (S : Addr → Prop) (H : Hp) (v : V) (d : PyData) : Prop := Dr K S H v d ∨ ∃ a xs ds, v = .ref a ∧ d = .list ds ∧ H a = some (.lst xs) ∧ Drs K S H xs ds
section
variable {K : PySem.W.Frag} {S S' : Addr → Prop} {H H' : Hp} {τ : Tn}
theorem Dr.i {v : V} {d : PyData} (h : Dr K S H v d) : DrI K S H v d := .inl h
theorem SqT.keep {a : Addr} {xs : List V} (h : SqT K H a xs) (k : ∀ o, (∀ ps, o ≠ .tbl ps) → (∀ kvs, o ≠ .dK kvs) → H a = some o → H' a = some o) : SqT K H' a xs := by
  rcases h with (h | ⟨o, h⟩) | h
  · exact .inl (.inl (k _ (fun _ z => by cases z) (fun _ z => by cases z) h))
  · exact .inl (.inr ⟨o, k _ (fun _ z => by cases z) (fun _ z => by cases z) h⟩)
  · exact .inr h
/-- what is neither a table nor a dict of the town stays -/
def Kp (H H' : Hp) : Prop := ∀ a o, (∀ ps, o ≠ .tbl ps) → (∀ kvs, o ≠ .dK kvs) → H a = some o → H' a = some o
mutual
theorem Dr.kp (k : ∀ a o, ¬ S a → (∀ ps, o ≠ .tbl ps) → (∀ kvs, o ≠ .dK kvs) → H a = some o → H' a = some o) (kt : ∀ a xs, SqT K H a xs → SqT K H' a xs) : ∀ (d : PyData) (v : V), Dr K S H v d → Dr K S H' v d
  | .none, _, h => by cases h; exact .non
  | .bool _, _, h => by cases h; exact .bl _
  | .int _, _, h => by cases h; exact .int _
  | .str _, _, h => by cases h; exact .str _
  | .list ds, _, h => by
    cases h with
    | lst e n hs => exact .lst (k _ _ n (fun _ z => by cases z) (fun _ z => by cases z) e) n (Drs.kp k kt ds _ hs)
  | .tuple ds, _, h => by
    cases h with
    | tup e hs => exact .tup (kt _ _ e) (Drs.kp k kt ds _ hs)
  | .dict _, _, h => by cases h
theorem Drs.kp (k : ∀ a o, ¬ S a → (∀ ps, o ≠ .tbl ps) → (∀ kvs, o ≠ .dK kvs) → H a = some o → H' a = some o) (kt : ∀ a xs, SqT K H a xs → SqT K H' a xs) : ∀ (ds : List PyData) (vs : List V), Drs K S H vs ds → Drs K S H' vs ds
  | [], _, h => by cases h; exact .nil
  | d :: ds, _, h => by
    cases h with
    | cons h1 h2 => exact .cons (Dr.kp k kt d _ h1) (Drs.kp k kt ds _ h2)
end
mutual
theorem Dr.mono (hs : ∀ a, S' a → S a) : ∀ (d : PyData) (v : V), Dr K S H v d → Dr K S' H v d
  | .none, _, h => by cases h; exact .non
  | .bool _, _, h => by cases h; exact .bl _
  | .int _, _, h => by cases h; exact .int _
  | .str _, _, h => by cases h; exact .str _
  | .list ds, _, h => by
    cases h with
    | lst e n q => exact .lst e (fun z => n (hs _ z)) (Drs.mono hs ds _ q)
  | .tuple ds, _, h => by
    cases h with
    | tup e q => exact .tup e (Drs.mono hs ds _ q)
  | .dict _, _, h => by cases h
theorem Drs.mono (hs : ∀ a, S' a → S a) : ∀ (ds : List PyData) (vs : List V), Drs K S H vs ds → Drs K S' H vs ds
  | [], _, h => by cases h; exact .nil
  | d :: ds, _, h => by
    cases h with
    | cons h1 h2 => exact .cons (Dr.mono hs d _ h1) (Drs.mono hs ds _ h2)
end
mutual
theorem Dr.fresh {p : Addr} (hp : H p = none) : ∀ (d : PyData) (v : V), Dr K S H v d → Dr K (fun a => S a ∨ a = p) H v d
  | .none, _, h => by cases h; exact .non
  | .bool _, _, h => by cases h; exact .bl _
  | .int _, _, h => by cases h; exact .int _
  | .str _, _, h => by cases h; exact .str _
  | .list ds, _, h => by
    cases h with
    | lst e n q => exact .lst e (fun z => z.elim n fun z => by rw [z, hp] at e; cases e) (Drs.fresh hp ds _ q)
  | .tuple ds, _, h => by
    cases h with
    | tup e q => exact .tup e (Drs.fresh hp ds _ q)
  | .dict _, _, h => by cases h
theorem Drs.fresh {p : Addr} (hp : H p = none) : ∀ (ds : List PyData) (vs : List V), Drs K S H vs ds → Drs K (fun a => S a ∨ a = p) H vs ds
  | [], _, h => by cases h; exact .nil
  | d :: ds, _, h => by
    cases h with
    | cons h1 h2 => exact .cons (Dr.fresh hp d _ h1) (Drs.fresh hp ds _ h2)
end
mutual
/-- the set may be shifted where nothing is -/
theorem Dr.shift (hs : ∀ a, S' a → S a ∨ H a = none) : ∀ (d : PyData) (v : V), Dr K S H v d → Dr K S' H v d
  | .none, _, h => by cases h; exact .non
  | .bool _, _, h => by cases h; exact .bl _
  | .int _, _, h => by cases h; exact .int _
  | .str _, _, h => by cases h; exact .str _
  | .list ds, _, h => by
    cases h with
    | lst e n q => exact .lst e (fun z => (hs _ z).elim n fun z => by rw [z] at e; cases e) (Drs.shift hs ds _ q)
  | .tuple ds, _, h => by
    cases h with
    | tup e q => exact .tup e (Drs.shift hs ds _ q)
  | .dict _, _, h => by cases h
theorem Drs.shift (hs : ∀ a, S' a → S a ∨ H a = none) : ∀ (ds : List PyData) (vs : List V), Drs K S H vs ds → Drs K S' H vs ds
  | [], _, h => by cases h; exact .nil
  | d :: ds, _, h => by
    cases h with
    | cons h1 h2 => exact .cons (Dr.shift hs d _ h1) (Drs.shift hs ds _ h2)
end
mutual
theorem Dr.dp : ∀ (d : PyData) (v : V), Dr K S H v d → Dp K H v d
  | .none, _, h => by cases h; exact .non
  | .bool _, _, h => by cases h; exact .bl _
  | .int _, _, h => by cases h; exact .int _
  | .str _, _, h => by cases h; exact .str _
  | .list ds, _, h => by
    cases h with
    | lst e n q => exact .lst (SqL.of e) (Drs.dp ds _ q)
  | .tuple ds, _, h => by
    cases h with
    | tup e q => exact .tup e (Drs.dp ds _ q)
  | .dict _, _, h => by cases h
theorem Drs.dp : ∀ (ds : List PyData) (vs : List V), Drs K S H vs ds → DpAll K H vs ds
  | [], _, h => by cases h; exact .nil
  | d :: ds, _, h => by
    cases h with
    | cons h1 h2 => exact .cons (Dr.dp d _ h1) (Drs.dp ds _ h2)
end
theorem DrI.dp {v : V} {d : PyData} (h : DrI K S H v d) : Dp K H v d := by
  rcases h with h | ⟨a, xs, ds, rfl, rfl, e, q⟩
  · exact h.dp
  · exact .lst (SqL.of e) q.dp
theorem Ke.sqt {S : Addr → Prop} (x : Ke S H H') {a : Addr} {xs : List V} (h : SqT K H a xs) : SqT K H' a xs := h.imp (x.2.2 a xs) id
/-- what avoids S' stays while only S is written -/
theorem Ke.dr (x : Ke S H H') (hS : ∀ a, S a → S' a) {v : V} {d : PyData} (h : Dr K S' H v d) : Dr K S' H' v d := h.kp (fun a o n h1 _ e => x.1 a o (fun z => n (hS a z)) h1 e) fun a xs q => x.sqt q
theorem Ke.drs (x : Ke S H H') (hS : ∀ a, S a → S' a) {vs : List V} {ds : List PyData} (h : Drs K S' H vs ds) : Drs K S' H' vs ds := h.kp (fun a o n h1 _ e => x.1 a o (fun z => n (hS a z)) h1 e) fun a xs q => x.sqt q
theorem Xt.sqt {s : Twn} (x : Xt τ H H') (t : TownR τ H s) {a : Addr} {xs : List V} (h : SqT K H a xs) : SqT K H' a xs := Ke.sqt x h
theorem Xt.dr {s : Twn} {v : V} {d : PyData} (x : Xt τ H H') (t : TownR τ H s) (hS : ∀ a, τ.T a → S a) (h : Dr K S H v d) : Dr K S H' v d := h.kp (fun a o n h1 _ e => x.1 a o (fun z => n (hS a z)) h1 e) fun a xs q => x.sqt t q
theorem Xt.drs {s : Twn} {vs : List V} {ds : List PyData} (x : Xt τ H H') (t : TownR τ H s) (hS : ∀ a, τ.T a → S a) (h : Drs K S H vs ds) : Drs K S H' vs ds := h.kp (fun a o n h1 _ e => x.1 a o (fun z => n (hS a z)) h1 e) fun a xs q => x.sqt t q
theorem Al.dr {v : V} {d : PyData} (x : Al H H') (h : Dr K S H v d) : Dr K S H' v d := h.kp (fun a o _ _ _ e => x a o e) fun a xs q => SqT.keep q fun o _ _ e => x a o e
theorem Al.drs {vs : List V} {ds : List PyData} (x : Al H H') (h : Drs K S H vs ds) : Drs K S H' vs ds := h.kp (fun a o _ _ _ e => x a o e) fun a xs q => SqT.keep q fun o _ _ e => x a o e
theorem Al.dri {v : V} {d : PyData} (x : Al H H') (h : DrI K S H v d) : DrI K S H' v d := by
  rcases h with h | ⟨a, xs, ds, rfl, rfl, e, q⟩
  · exact .inl (x.dr h)
  · exact .inr ⟨a, xs, ds, rfl, rfl, x _ _ e, x.drs q⟩
theorem Drs.length : ∀ {vs : List V} {ds : List PyData}, Drs K S H vs ds → vs.length = ds.length
  | _, _, .nil => rfl
  | _, _, .cons _ t => by simp [Drs.length t]
theorem Drs.get : ∀ {vs : List V} {ds : List PyData} {i : Nat} {d : PyData}, Drs K S H vs ds → ds[i]? = some d → ∃ v, vs[i]? = some v ∧ Dr K S H v d
  | _, _, _, _, .nil, e => by simp at e
  | _, _, 0, _, .cons h _, e => by simp at e; subst e; exact ⟨_, rfl, h⟩
  | _, _, i + 1, d, .cons _ t, e => by
    obtain ⟨v, h1, h2⟩ := Drs.get (i := i) (d := d) t (by simpa using e)
    exact ⟨v, by simpa using h1, h2⟩
theorem Drs.append : ∀ {vs us : List V} {ds es : List PyData}, Drs K S H vs ds → Drs K S H us es → Drs K S H (vs ++ us) (ds ++ es)
  | _, _, _, _, .nil, h => h
  | _, _, _, _, .cons h t, q => .cons h (Drs.append t q)
theorem Drs.take : ∀ {vs : List V} {ds : List PyData} (n : Nat), Drs K S H vs ds → Drs K S H (vs.take n) (ds.take n)
  | _, _, 0, _ => .nil
  | _, _, _ + 1, .nil => .nil
  | _, _, n + 1, .cons h t => .cons h (Drs.take n t)
theorem Drs.drop : ∀ {vs : List V} {ds : List PyData} (n : Nat), Drs K S H vs ds → Drs K S H (vs.drop n) (ds.drop n)
  | _, _, 0, h => h
  | _, _, _ + 1, .nil => .nil
  | _, _, n + 1, .cons _ t => Drs.drop n t
theorem Drs.reverse {vs : List V} {ds : List PyData} (h : Drs K S H vs ds) : Drs K S H vs.reverse ds.reverse := by
  induction ds generalizing vs with
  | nil => cases h; exact .nil
  | cons d ds ih =>
    cases h with
    | cons h t =>
      rw [List.reverse_cons, List.reverse_cons]
      exact (ih t).append (.cons h .nil)
theorem Drs.set {v : V} {d : PyData} (r : Dr K S H v d) : ∀ {vs : List V} {ds : List PyData} (i : Nat), Drs K S H vs ds → Drs K S H (vs.set i v) (ds.set i d)
  | _, _, _, .nil => .nil
  | _, _, 0, .cons _ t => .cons r t
  | _, _, i + 1, .cons q t => .cons q (Drs.set r i t)
theorem Drs.rep {vs : List V} {ds : List PyData} (h : Drs K S H vs ds) : ∀ n, Drs K S H (List.replicate n vs).flatten (List.replicate n ds).flatten
  | 0 => .nil
  | n + 1 => by
    rw [List.replicate_succ, List.replicate_succ, List.flatten_cons, List.flatten_cons]
    exact h.append (Drs.rep h n)
theorem Drs.cut {vs : List V} {ds : List PyData} (h : Drs K S H vs ds) (lo hi : Option Int) : Drs K S H (cutV vs lo hi) (cut ds lo hi) := by
  unfold cutV BK.cut
  rw [h.length]
  exact (h.drop _).take _
end

/-! ### values of the small language -/
/-- a dict with int and text keys -/
def DKr (K : PySem.W.Frag) (S : Addr → Prop) (H : Hp) (a : Addr) (kvs : List (Key × PyData)) : Prop :=
  ∃ vs : List (Key × V), H a = some (.dK vs) ∧ Paired (fun (p : Key × PyData) (q : Key × V) => p.1 = q.1 ∧ Dr K S H q.2 p.2) kvs vs
/-- a row of a dict with tuple keys -/
def RowR (K : PySem.W.Frag) (S : Addr → Prop) (H : Hp) (p : NestedKey × PyData) (x : NestedKey × Addr × Value) : Prop :=
  p.1 = x.1 ∧ x.1.depth ≤ 8 ∧ Dr K S H (.ref x.2.1) x.1.data ∧ ∃ v, RelV v x.2.2 ∧ Dr K S H v p.2
def DTr (P : Program) (w : World) (K : PySem.W.Frag) (S : Addr → Prop) (H : Hp) (a : Addr) (kvs : List (NestedKey × PyData)) : Prop :=
  ∃ (o : Obj) (es : Array DictEntry) (ep : Nat) (xs : List (NestedKey × Addr × Value)), H a = some (ObO a o) ∧ (a == sysModules) = false ∧ o.ExactDict ∧ o.data = .dict es ep ∧
    es.toList = xs.map (entryOfKey (nestedKind P w)) ∧ (xs.map (·.1)).Nodup ∧ xs.length ≤ sizeLine ∧ Paired (RowR K S H) kvs xs
section
variable (P : Program) (w : World) (K : PySem.W.Frag) (τ : Tn)
/-- v is the value d in H; md: the value may be kept (nothing in S is reached) -/
def Dv (S : Addr → Prop) (md : Bool) (H : Hp) (v : V) : D → Prop
  | .dat d => if md then Dr K S H v d else DrI K S H v d
  | .dK kvs => ∃ a, v = .ref a ∧ (md = true → ¬ S a) ∧ ¬ τ.T a ∧ DKr K S H a kvs
  | .dT kvs => ∃ a, v = .ref a ∧ (md = true → ¬ S a) ∧ ¬ τ.T a ∧ DTr P w K S H a kvs
  | .fn i => v = .ref (τ.fa i)
  | .town => v = .ref τ.ta
  | .scr => v = .ref τ.sa
/-- what is still written in a frame -/
def Own (env : Env) (σ : St) (a : Addr) : Prop := ∃ (i : Nat) (d : D), env[i]? = some (some (true, d)) ∧ σ[i]? = some (some (.ref a))
/-- what a kept value must not reach -/
def Av (B : Addr → Prop) (env : Env) (σ : St) (a : Addr) : Prop := B a ∨ Own env σ a
structure Rep (B : Addr → Prop) (env : Env) (σ : St) (H : Hp) : Prop where
  len : σ.length = env.length
  val : ∀ (i : Nat) (d : D), env[i]? = some (some (false, d)) → ∃ v, σ[i]? = some (some v) ∧ Dv P w K τ (Av B env σ) true H v d
  own : ∀ (i : Nat) (d : D), env[i]? = some (some (true, d)) → ∃ a, σ[i]? = some (some (.ref a)) ∧ ¬ B a ∧ H a ≠ none ∧ Dv P w K τ (Av B env σ) false H (.ref a) d
  inj : ∀ (i j : Nat) (a : Addr) (d e : D), env[i]? = some (some (true, d)) → env[j]? = some (some (true, e)) → σ[i]? = some (some (.ref a)) → σ[j]? = some (some (.ref a)) → i = j
  dom : ∀ a, B a → H a ≠ none
  tB : ∀ a, τ.U a → B a
end
section
variable {P : Program} {w : World} {K : PySem.W.Frag} {τ : Tn} {S S' B : Addr → Prop} {H H' : Hp} {s : Twn} {env : Env} {σ : St} {md : Bool}
theorem Dv.weak {v : V} {d : D} (h : Dv P w K τ S true H v d) : Dv P w K τ S md H v d := by
  cases md with
  | true => exact h
  | false =>
    cases d with
    | dat d => exact Dr.i h
    | dK kvs => obtain ⟨a, e, _, r⟩ := h; exact ⟨a, e, fun z => (by cases z), r⟩
    | dT kvs => obtain ⟨a, e, _, r⟩ := h; exact ⟨a, e, fun z => (by cases z), r⟩
    | fn i => exact h
    | town => exact h
    | scr => exact h
theorem Paired.mp {α β : Type} {F G : α → β → Prop} {l₁ : List α} {l₂ : List β} (h : Paired F l₁ l₂) (f : ∀ a b, F a b → G a b) : Paired G l₁ l₂ := L2.Paired.mapP h f
theorem Xt.obj {a : Addr} {o : Obj} (x : Xt τ H H') (n : ¬ τ.T a) (h : H a = some (ObO a o)) : H' a = some (ObO a o) := x.1 _ _ n (fun _ z => by unfold ObO at z; cases z) h
theorem Xt.dT {a : Addr} {kvs : List (NestedKey × PyData)} (x : Xt τ H H') (t : TownR τ H s) (hS : ∀ a, τ.T a → S a) (n : ¬ τ.T a) (h : DTr P w K S H a kvs) : DTr P w K S H' a kvs := by
  obtain ⟨o, es, ep, xs, e, r1, r2, r3, r4, r5, r6, pr⟩ := h
  exact ⟨o, es, ep, xs, x.obj n e, r1, r2, r3, r4, r5, r6, Paired.mp pr fun p q ⟨h1, h2, h3, v, h4, h5⟩ => ⟨h1, h2, x.dr t hS h3, v, h4, x.dr t hS h5⟩⟩
theorem Xt.dK {a : Addr} {kvs : List (Key × PyData)} (x : Xt τ H H') (t : TownR τ H s) (hS : ∀ a, τ.T a → S a) (n : ¬ τ.T a) (h : DKr K S H a kvs) : DKr K S H' a kvs := by
  obtain ⟨vs, e, pr⟩ := h
  exact ⟨vs, x.1 _ _ n (fun _ z => by cases z) e, Paired.mp pr fun p q ⟨h1, h2⟩ => ⟨h1, x.dr t hS h2⟩⟩
theorem Xt.dri {v : V} {d : PyData} (x : Xt τ H H') (t : TownR τ H s) (hS : ∀ a, τ.T a → S a) (h : DrI K S H v d) : DrI K S H' v d := by
  rcases h with h | ⟨a, xs, ds, rfl, rfl, e, q⟩
  · exact .inl (x.dr t hS h)
  · refine .inr ⟨a, xs, ds, rfl, rfl, x.1 _ _ (fun z => ?_) (fun _ z => by cases z) e, x.drs t hS q⟩
    rcases z with rfl | rfl
    · rw [t.1] at e; cases e
    · rw [t.2.1] at e; cases e
theorem Xt.dv {v : V} {d : D} (x : Xt τ H H') (t : TownR τ H s) (hS : ∀ a, τ.T a → S a) (h : Dv P w K τ S md H v d) : Dv P w K τ S md H' v d := by
  cases d with
  | dat d =>
    cases md with
    | true => exact x.dr t hS h
    | false => exact x.dri t hS h
  | dK kvs => obtain ⟨a, e, n, m, r⟩ := h; exact ⟨a, e, n, m, x.dK t hS m r⟩
  | dT kvs => obtain ⟨a, e, n, m, r⟩ := h; exact ⟨a, e, n, m, x.dT t hS m r⟩
  | fn i => exact h
  | town => exact h
  | scr => exact h
theorem DrI.mono (hs : ∀ a, S' a → S a) {v : V} {d : PyData} (h : DrI K S H v d) : DrI K S' H v d := by
  rcases h with h | ⟨a, xs, ds, e1, e2, e, q⟩
  · exact .inl (h.mono hs)
  · exact .inr ⟨a, xs, ds, e1, e2, e, q.mono hs⟩
theorem Dv.mono (hs : ∀ a, S' a → S a) {v : V} {d : D} (h : Dv P w K τ S md H v d) : Dv P w K τ S' md H v d := by
  cases d with
  | dat d =>
    cases md with
    | true => exact Dr.mono hs d v h
    | false => exact DrI.mono hs h
  | dK kvs =>
    obtain ⟨a, e, n, m, vs, h1, pr⟩ := h
    exact ⟨a, e, fun z q => n z (hs a q), m, vs, h1, Paired.mp pr fun p q ⟨h1, h2⟩ => ⟨h1, h2.mono hs⟩⟩
  | dT kvs =>
    obtain ⟨a, e, n, m, o, es, ep, xs, e1, r1, r2, r3, r4, r5, r6, pr⟩ := h
    exact ⟨a, e, fun z q => n z (hs a q), m, o, es, ep, xs, e1, r1, r2, r3, r4, r5, r6, Paired.mp pr fun p q ⟨h1, h2, h3, v, h4, h5⟩ => ⟨h1, h2, h3.mono hs, v, h4, h5.mono hs⟩⟩
  | fn i => exact h
  | town => exact h
  | scr => exact h
/-- a new address may be kept out, too -/
theorem Dv.fresh {p : Addr} (hp : H p = none) {v : V} {d : D} (h : Dv P w K τ S md H v d) : Dv P w K τ (fun a => S a ∨ a = p) md H v d := by
  cases d with
  | dat d =>
    cases md with
    | true => exact Dr.fresh hp d v h
    | false =>
      rcases (show DrI K S H v d from h) with h | ⟨a, xs, ds, e1, e2, e, q⟩
      · exact .inl (h.fresh hp)
      · exact .inr ⟨a, xs, ds, e1, e2, e, q.fresh hp⟩
  | dK kvs =>
    obtain ⟨a, e, n, m, vs, h1, pr⟩ := h
    exact ⟨a, e, fun z q => q.elim (n z) (fun q => by rw [q, hp] at h1; cases h1), m, vs, h1, Paired.mp pr fun p q ⟨h1, h2⟩ => ⟨h1, h2.fresh hp⟩⟩
  | dT kvs =>
    obtain ⟨a, e, n, m, o, es, ep, xs, e1, r1, r2, r3, r4, r5, r6, pr⟩ := h
    exact ⟨a, e, fun z q => q.elim (n z) (fun q => by rw [q, hp] at e1; cases e1), m, o, es, ep, xs, e1, r1, r2, r3, r4, r5, r6, Paired.mp pr fun p q ⟨h1, h2, h3, v, h4, h5⟩ => ⟨h1, h2, h3.fresh hp, v, h4, h5.fresh hp⟩⟩
  | fn i => exact h
  | town => exact h
  | scr => exact h
theorem Rep.tS (R : Rep P w K τ B env σ H) : ∀ a, τ.T a → Av B env σ a := fun a h => .inl (R.tB a (.inl h))
theorem Rep.xt (R : Rep P w K τ B env σ H) (t : TownR τ H s) (x : Xt τ H H') : Rep P w K τ B env σ H' where
  len := R.len
  val := fun i d e => by
    obtain ⟨v, h1, h2⟩ := R.val i d e
    exact ⟨v, h1, x.dv t R.tS h2⟩
  own := fun i d e => by
    obtain ⟨a, h1, h2, h3, h4⟩ := R.own i d e
    exact ⟨a, h1, h2, x.2.1 a h3, x.dv t R.tS h4⟩
  inj := R.inj
  dom := fun a h => x.2.1 a (R.dom a h)
  tB := R.tB
theorem Rep.sdom (R : Rep P w K τ B env σ H) : ∀ a, Av B env σ a → H a ≠ none := fun a h => by
  rcases h with h | ⟨i, d, h1, h2⟩
  · exact R.dom a h
  · obtain ⟨b, e1, _, e2, _⟩ := R.own i d h1
    rw [h2] at e1
    cases e1
    exact e2
end
end BK
set_option Elab.async false
set_option linter.all false
set_option maxRecDepth 100000
set_option maxHeartbeats 1000000
/-! The operations by values. -/
namespace BK
open PySem L2

section
variable {P : Program} {w : World} {K : PySem.W.Frag} {τ : Tn} {S : Addr → Prop} {H H' : Hp} {v : V}
theorem DrI.int {i : Int} (h : DrI K S H v (.int i)) : v = .int i := by
  rcases h with h | ⟨_, _, _, _, e, _⟩
  · cases h; rfl
  · cases e
theorem DrI.str {x : Str} (h : DrI K S H v (.str x)) : v = .str x := by
  rcases h with h | ⟨_, _, _, _, e, _⟩
  · cases h; rfl
  · cases e
theorem DrI.bl {b : Bool} (h : DrI K S H v (.bool b)) : v = .bl b := by
  rcases h with h | ⟨_, _, _, _, e, _⟩
  · cases h; rfl
  · cases e
theorem DrI.non (h : DrI K S H v .none) : v = .non := by
  rcases h with h | ⟨_, _, _, _, e, _⟩
  · cases h; rfl
  · cases e
theorem DrI.tup {ds : List PyData} (h : DrI K S H v (.tuple ds)) : ∃ a xs, v = .ref a ∧ SqT K H a xs ∧ Drs K S H xs ds := by
  rcases h with h | ⟨_, _, _, _, e, _⟩
  · cases h with
    | tup e q => exact ⟨_, _, rfl, e, q⟩
  · cases e
theorem DrI.lst {ds : List PyData} (h : DrI K S H v (.list ds)) : ∃ a xs, v = .ref a ∧ H a = some (.lst xs) ∧ Drs K S H xs ds := by
  rcases h with h | ⟨a, xs, es, rfl, e, q⟩
  · cases h with
    | lst e n q => exact ⟨_, _, rfl, e, q⟩
  · cases e; exact ⟨a, xs, rfl, q⟩
theorem Dv.i {d : PyData} {md : Bool} (h : Dv P w K τ S md H v (.dat d)) : DrI K S H v d := by
  cases md with
  | true => exact .inl h
  | false => exact h
theorem Dv.d {d : PyData} (h : Dv P w K τ S true H v (.dat d)) : Dr K S H v d := h
theorem Dr.newL {a : Addr} {xs : List V} {ds : List PyData} (hS : ∀ a, S a → H a ≠ none) (n : H a = none) (h : Drs K S H xs ds) : Dr K S (upd H a (.lst xs)) (.ref a) (.list ds) :=
  .lst upd_same (fun z => hS _ z n) ((Al.new n).drs h)
theorem Dr.newT {a : Addr} {xs : List V} {ds : List PyData} (n : H a = none) (h : Drs K S H xs ds) : Dr K S (upd H a (.tup xs)) (.ref a) (.tuple ds) :=
  .tup (SqT.of upd_same) ((Al.new n).drs h)
end

/-- an operation of two values -/
def rB (P : Program) (w : World) (K : PySem.W.Frag) (τ : Tn) (g : D → D → Option D) : R2 := fun x y H Q => ∃ (S : Addr → Prop) (dx dy r : D), (∀ a, S a → H a ≠ none) ∧
  Dv P w K τ S false H x dx ∧ Dv P w K τ S false H y dy ∧ g dx dy = some r ∧ ∀ v H', Al H H' → Dv P w K τ S true H' v r → Q v H'
def rP (P : Program) (w : World) (K : PySem.W.Frag) (τ : Tn) (g : D → Option D) : V → Hp → VK → Prop := fun x H Q => ∃ (S : Addr → Prop) (dx r : D), (∀ a, S a → H a ≠ none) ∧
  Dv P w K τ S false H x dx ∧ g dx = some r ∧ ∀ v H', Al H H' → Dv P w K τ S true H' v r → Q v H'

/-- a comparison of two values -/
def rC (P : Program) (w : World) (K : PySem.W.Frag) (τ : Tn) (g : D → D → Option Bool) : R2 := fun x y H Q => ∃ (S : Addr → Prop) (dx dy : D) (r : Bool),
  Dv P w K τ S false H x dx ∧ Dv P w K τ S false H y dy ∧ g dx dy = some r ∧ Q (.bl r) H

section
variable {X : Cx} {τ : Tn}
theorem ob_add : OpR X (binaryOp .Add) (rB X.prog X.w X.K τ opAdd) := by
  intro pins s σ H x y v u Q I rx ry ⟨S, dx, dy, r, hS, hx, hy, hg, q⟩
  unfold opAdd at hg
  split at hg <;> try (cases hg; done)
  · cases hg
    obtain rfl := hx.i.int
    obtain rfl := hy.i.int
    exact op_add pins s σ H _ _ v u Q I rx ry ⟨_, _, rfl, rfl, q _ _ (Al.refl H) (.int _)⟩
  · rename_i a b
    obtain ⟨hl, hg⟩ := Option.ite_none_right_eq_some.mp hg
    cases hg
    obtain rfl := hx.i.str
    obtain rfl := hy.i.str
    exact op_add_str pins s σ H _ _ v u Q I rx ry ⟨_, _, rfl, rfl, hl, q _ _ (Al.refl H) (.str _)⟩
  · rename_i a b
    obtain ⟨hl, hg⟩ := Option.ite_none_right_eq_some.mp hg
    cases hg
    obtain ⟨p1, xs, rfl, s1, d1⟩ := hx.i.tup
    obtain ⟨p2, ys, rfl, s2, d2⟩ := hy.i.tup
    refine op_catA pins s σ H _ _ v u Q I rx ry ⟨p1, p2, xs, ys, rfl, rfl, s1, s2, by rw [d1.length, d2.length]; exact hl, fun e => ?_, fun e1 e => ?_, fun e1 e2 p np => ?_⟩
    · subst e
      cases d1
      exact q _ _ (Al.refl H) (.tup s2 d2)
    · subst e
      cases d2
      refine q _ _ (Al.refl H) ?_
      rw [List.append_nil]
      exact .tup s1 d1
    · exact q _ _ (Al.new np) (Dr.newT np (d1.append d2))
  · rename_i a b
    obtain ⟨hl, hg⟩ := Option.ite_none_right_eq_some.mp hg
    cases hg
    obtain ⟨p1, xs, rfl, s1, d1⟩ := hx.i.lst
    obtain ⟨p2, ys, rfl, s2, d2⟩ := hy.i.lst
    exact op_cat pins s σ H _ _ v u Q I rx ry ⟨p1, p2, xs, ys, rfl, rfl, s1, s2, by rw [d1.length, d2.length]; exact hl, fun p np => q _ _ (Al.new np) (Dr.newL hS np (d1.append d2))⟩
theorem ob_sub : OpR X (binaryOp .Sub) (rB X.prog X.w X.K τ opSub) := by
  intro pins s σ H x y v u Q I rx ry ⟨S, dx, dy, r, hS, hx, hy, hg, q⟩
  unfold opSub at hg
  split at hg <;> try (cases hg; done)
  cases hg
  obtain rfl := hx.i.int
  obtain rfl := hy.i.int
  exact op_sub pins s σ H _ _ v u Q I rx ry ⟨_, _, rfl, rfl, q _ _ (Al.refl H) (.int _)⟩
theorem ob_mod : OpR X (binaryOp .Mod) (rB X.prog X.w X.K τ opMod) := by
  intro pins s σ H x y v u Q I rx ry ⟨S, dx, dy, r, hS, hx, hy, hg, q⟩
  unfold opMod at hg
  split at hg <;> try (cases hg; done)
  obtain ⟨hl, hg⟩ := Option.ite_none_right_eq_some.mp hg
  cases hg
  obtain rfl := hx.i.int
  obtain rfl := hy.i.int
  exact op_mod pins s σ H _ _ v u Q I rx ry ⟨_, _, rfl, rfl, hl, q _ _ (Al.refl H) (.int _)⟩
theorem ob_fdiv : OpR X (binaryOp .FloorDiv) (rB X.prog X.w X.K τ opFdiv) := by
  intro pins s σ H x y v u Q I rx ry ⟨S, dx, dy, r, hS, hx, hy, hg, q⟩
  unfold opFdiv at hg
  split at hg <;> try (cases hg; done)
  obtain ⟨hl, hg⟩ := Option.ite_none_right_eq_some.mp hg
  cases hg
  obtain rfl := hx.i.int
  obtain rfl := hy.i.int
  exact op_fdiv pins s σ H _ _ v u Q I rx ry ⟨_, _, rfl, rfl, hl, q _ _ (Al.refl H) (.int _)⟩

/-- room on the stack; nothing is being handled -/
structure Gd (X : Cx) : Prop where
  calm : X.calm = true
  un : X.A.units + 64 < cLine
  nd : X.N.Nodup
theorem Gd.u1 {X : Cx} (g : Gd X) : X.A.units + 1 < cLine := by have := g.un; omega
mutual
theorem Dr.plain {K : PySem.W.Frag} {S : Addr → Prop} {H : Hp} : ∀ (d : PyData) (v : V), Dr K S H v d → d.plain = true
  | .none, _, _ => rfl
  | .bool _, _, _ => rfl
  | .int _, _, _ => rfl
  | .str _, _, _ => rfl
  | .list ds, _, h => by
    cases h with
    | lst _ _ q => exact Drs.plain ds _ q
  | .tuple ds, _, h => by
    cases h with
    | tup _ q => exact Drs.plain ds _ q
  | .dict _, _, h => by cases h
theorem Drs.plain {K : PySem.W.Frag} {S : Addr → Prop} {H : Hp} : ∀ (ds : List PyData) (vs : List V), Drs K S H vs ds → PyData.plainAll ds = true
  | [], _, _ => rfl
  | d :: ds, _, h => by
    cases h with
    | cons h1 h2 =>
      show (d.plain && PyData.plainAll ds) = true
      rw [Dr.plain d _ h1, Drs.plain ds _ h2]
      rfl
end
theorem DrI.plain {K : PySem.W.Frag} {S : Addr → Prop} {H : Hp} {v : V} {d : PyData} (h : DrI K S H v d) : d.plain = true := by
  rcases h with h | ⟨a, xs, ds, rfl, rfl, e, q⟩
  · exact h.plain
  · exact q.plain
section
variable {τ : Tn}
theorem DrI.reads {pins : List (Addr × Obj)} {s : Shared} {σ : St} {H : Hp} {S : Addr → Prop} {v : V} {u : Value} {d : PyData} (I : Inv X pins σ H s) (h : DrI X.K S H v d) (r : RelV v u) : ∃ as, Reads s.heap u d as := Dp.reads I d v u h.dp r
theorem ok_le {d : PyData} (h : okD d = true) : d.depth ≤ 60 := of_decide_eq_true h
theorem oc_eq (g : Gd X) : OpR X (compareOp .Eq) (rC X.prog X.w X.K τ opEq) := by
  intro pins s σ H x y v u Q I rx ry ⟨S, dx, dy, r, hx, hy, hg, q⟩
  unfold opEq at hg
  split at hg <;> try (cases hg; done)
  obtain ⟨hok, hg⟩ := Option.ite_none_right_eq_some.mp hg
  cases hg
  rw [Bool.and_eq_true] at hok
  have hu := g.un
  have ha := ok_le hok.1
  have hb := ok_le hok.2
  obtain ⟨as, r1⟩ := hx.i.reads I rx
  obtain ⟨bs, r2⟩ := hy.i.reads I ry
  exact SeqAt.eq_plain r1 r2 hx.i.plain hy.i.plain (by omega) ⟨.bl _, H, I, rfl, q⟩
theorem oc_ne (g : Gd X) : OpR X (compareOp .NotEq) (rC X.prog X.w X.K τ fun a b => (opEq a b).map (!·)) := by
  intro pins s σ H x y v u Q I rx ry ⟨S, dx, dy, r, hx, hy, hg, q⟩
  simp only [Option.map_eq_some_iff] at hg
  obtain ⟨r, hg, rfl⟩ := hg
  unfold opEq at hg
  split at hg <;> try (cases hg; done)
  obtain ⟨hok, hg⟩ := Option.ite_none_right_eq_some.mp hg
  cases hg
  rw [Bool.and_eq_true] at hok
  have hu := g.un
  have ha := ok_le hok.1
  have hb := ok_le hok.2
  obtain ⟨as, r1⟩ := hx.i.reads I rx
  obtain ⟨bs, r2⟩ := hy.i.reads I ry
  exact SeqAt.ne_plain r1 r2 hx.i.plain hy.i.plain (by omega) ⟨.bl _, H, I, rfl, q⟩
theorem oc_lt (g : Gd X) : OpR X (compareOp .Lt) (rC X.prog X.w X.K τ opLt) := by
  intro pins s σ H x y v u Q I rx ry ⟨S, dx, dy, r, hx, hy, hg, q⟩
  unfold opLt at hg
  split at hg <;> try (cases hg; done)
  · cases hg
    obtain rfl := hx.i.int
    obtain rfl := hy.i.int
    exact op_lt pins s σ H _ _ v u Q I rx ry ⟨_, _, rfl, rfl, q⟩
  · obtain ⟨hok, hg⟩ := Option.ite_none_right_eq_some.mp hg
    cases hg
    unfold cmpOk at hok
    simp only [Bool.and_eq_true] at hok
    have hu := g.un
    have ha := ok_le hok.1.2
    have hb := ok_le hok.2
    obtain ⟨as, r1⟩ := hx.i.reads I rx
    obtain ⟨bs, r2⟩ := hy.i.reads I ry
    exact W.lt_data r1 r2 hok.1.1 (by simp) (by omega) ⟨.bl _, H, I, rfl, q⟩
theorem oc_le (g : Gd X) : OpR X (compareOp .LtE) (rC X.prog X.w X.K τ opLe) := by
  intro pins s σ H x y v u Q I rx ry ⟨S, dx, dy, r, hx, hy, hg, q⟩
  unfold opLe at hg
  split at hg <;> try (cases hg; done)
  · cases hg
    obtain rfl := hx.i.int
    obtain rfl := hy.i.int
    exact op_le pins s σ H _ _ v u Q I rx ry ⟨_, _, rfl, rfl, q⟩
  · obtain ⟨hok, hg⟩ := Option.ite_none_right_eq_some.mp hg
    cases hg
    unfold cmpOk at hok
    simp only [Bool.and_eq_true] at hok
    have hu := g.un
    have ha := ok_le hok.1.2
    have hb := ok_le hok.2
    obtain ⟨as, r1⟩ := hx.i.reads I rx
    obtain ⟨bs, r2⟩ := hy.i.reads I ry
    exact W.le_data r1 r2 hok.1.1 (by simp) (by omega) ⟨.bl _, H, I, rfl, q⟩
theorem oc_gt : OpR X (compareOp .Gt) (rC X.prog X.w X.K τ opGt) := by
  intro pins s σ H x y v u Q I rx ry ⟨S, dx, dy, r, hx, hy, hg, q⟩
  unfold opGt at hg
  split at hg <;> try (cases hg; done)
  cases hg
  obtain rfl := hx.i.int
  obtain rfl := hy.i.int
  exact op_gt pins s σ H _ _ v u Q I rx ry ⟨_, _, rfl, rfl, q⟩
theorem oc_ge : OpR X (compareOp .GtE) (rC X.prog X.w X.K τ opGe) := by
  intro pins s σ H x y v u Q I rx ry ⟨S, dx, dy, r, hx, hy, hg, q⟩
  unfold opGe at hg
  split at hg <;> try (cases hg; done)
  cases hg
  obtain rfl := hx.i.int
  obtain rfl := hy.i.int
  exact op_ge pins s σ H _ _ v u Q I rx ry ⟨_, _, rfl, rfl, q⟩

/-! ### dicts with tuple keys -/
theorem Drs.nested {pins : List (Addr × Obj)} {s : Shared} {σ : St} {H : Hp} {S : Addr → Prop} (I : Inv X pins σ H s) : True := True.intro
mutual
theorem nested_of {pins : List (Addr × Obj)} {s : Shared} {σ : St} {H : Hp} {S : Addr → Prop} (I : Inv X pins σ H s) : ∀ (d : PyData) (k : NestedKey) (v : V) (u : Value), nk d = some k → Dr X.K S H v d → RelV v u → NestedIs s.heap k u
  | .none, _, _, _, e, h, r => by
    cases h
    cases r
    cases e
    exact .none
  | .bool _, _, _, _, e, _, _ => by cases e
  | .int _, _, _, _, e, h, r => by
    cases h
    obtain ⟨t, rfl⟩ := r
    cases e
    exact .int _ _
  | .str _, _, _, _, e, h, r => by
    cases h
    obtain ⟨t, rfl⟩ := r
    cases e
    exact .text _ _
  | .list _, _, _, _, e, _, _ => by cases e
  | .dict _, _, _, _, e, _, _ => by cases e
  | .tuple ds, k, _, _, e, h, r => by
    unfold nk at e
    cases e' : nks ds with
    | none => rw [e'] at e; cases e
    | some ks =>
      rw [e'] at e
      cases e
      cases h with
      | tup hs hd =>
        cases r
        obtain ⟨its, rv, ⟨o, ho, hc, n, hdt⟩, _⟩ := I.tuple hs
        exact .tup ho hc hdt (by simpa using nested_all I ds ks _ _ e' hd rv)
theorem nested_all {pins : List (Addr × Obj)} {s : Shared} {σ : St} {H : Hp} {S : Addr → Prop} (I : Inv X pins σ H s) : ∀ (ds : List PyData) (ks : List NestedKey) (vs : List V) (us : List Value), nks ds = some ks → Drs X.K S H vs ds → Vals vs us → NestedAll s.heap ks us
  | [], _, _, _, e, h, r => by
    cases h
    cases r
    cases e
    exact .nil
  | d :: ds, _, _, _, e, h, r => by
    unfold nks at e
    cases e1 : nk d with
    | none => rw [e1] at e; cases e
    | some k =>
      cases e2 : nks ds with
      | none => rw [e1, e2] at e; cases e
      | some ks =>
        rw [e1, e2] at e
        cases e
        cases h with
        | cons h1 h2 =>
          cases r with
          | cons r1 r2 => exact .cons (nested_of I d k _ _ e1 h1 r1) (nested_all I ds ks _ _ e2 h2 r2)
end
theorem nkey_of {d : PyData} {k : NestedKey} (h : nkey d = some k) : (∃ ds, d = .tuple ds) ∧ nk d = some k ∧ k.depth ≤ 8 := by
  unfold nkey at h
  split at h
  · rename_i ds
    cases e : nk (.tuple ds) with
    | none => rw [e] at h; cases h
    | some k' =>
      rw [e] at h
      simp only [Option.bind_some] at h
      split at h
      · rename_i hk
        cases h
        exact ⟨⟨ds, rfl⟩, rfl, hk⟩
      · cases h
  · cases h
mutual
theorem nk_data : ∀ (d : PyData) (k : NestedKey), nk d = some k → k.data = d
  | .none, _, e => by cases e; rfl
  | .bool _, _, e => by cases e
  | .int _, _, e => by cases e; rfl
  | .str _, _, e => by cases e; rfl
  | .list _, _, e => by cases e
  | .dict _, _, e => by cases e
  | .tuple ds, k, e => by
    unfold nk at e
    cases e' : nks ds with
    | none => rw [e'] at e; cases e
    | some ks =>
      rw [e'] at e
      cases e
      show PyData.tuple (NestedKey.datas ks) = _
      rw [nks_datas ds ks e']
theorem nks_datas : ∀ (ds : List PyData) (ks : List NestedKey), nks ds = some ks → NestedKey.datas ks = ds
  | [], _, e => by cases e; rfl
  | d :: ds, _, e => by
    unfold nks at e
    cases e1 : nk d with
    | none => rw [e1] at e; cases e
    | some k =>
      cases e2 : nks ds with
      | none => rw [e1, e2] at e; cases e
      | some ks =>
        rw [e1, e2] at e
        cases e
        show NestedKey.data k :: NestedKey.datas ks = _
        rw [nk_data d k e1, nks_datas ds ks e2]
end
mutual
theorem data_nk : ∀ (k : NestedKey), nk k.data = some k
  | .none => rfl
  | .num _ => rfl
  | .text _ => rfl
  | .tup ks => by
    show nk (.tuple (NestedKey.datas ks)) = _
    unfold nk
    rw [datas_nks ks]
    rfl
theorem datas_nks : ∀ (ks : List NestedKey), nks (NestedKey.datas ks) = some ks
  | [] => rfl
  | k :: ks => by
    show nks (NestedKey.data k :: NestedKey.datas ks) = _
    unfold nks
    rw [data_nk k, datas_nks ks]
end
/-- the dict at a, as the library tells it -/
theorem DTr.of {pins : List (Addr × Obj)} {s : Shared} {σ : St} {H : Hp} {S : Addr → Prop} {a : Addr} {kvs : List (NestedKey × PyData)} (I : Inv X pins σ H s) (h : DTr X.prog X.w X.K S H a kvs) :
    ∃ xs : List (NestedKey × Addr × Value), s.heap.DictOfH (nestedKind X.prog X.w) a xs ∧ (a == sysModules) = false ∧ xs.length ≤ sizeLine ∧ Paired (RowR X.K S H) kvs xs := by
  obtain ⟨o, es, ep, xs, e, r1, r2, r3, r4, r5, r6, pr⟩ := h
  have ho : s.heap.get? a = some o := (I.hok a _ e).1
  refine ⟨xs, ⟨o, es, ep, ho, r2, r3, r4, ?_, r5⟩, r1, r6, pr⟩
  clear r4 r5 r6
  induction pr with
  | nil => intro x hx; cases hx
  | cons h t ih =>
    intro x hx
    rcases List.mem_cons.mp hx with rfl | hx
    · obtain ⟨h1, h2, h3, _⟩ := h
      exact ⟨nested_of I _ _ _ _ (data_nk _) h3 rfl, h2⟩
    · exact ih x hx
theorem look_row {S : Addr → Prop} {H : Hp} {K : PySem.W.Frag} {kvs : List (NestedKey × PyData)} {xs : List (NestedKey × Addr × Value)} (pr : Paired (RowR K S H) kvs xs) (k : NestedKey) :
    (∀ d, lookT kvs k = some d → ∃ b u v, atKey xs k = some (b, u) ∧ RelV v u ∧ Dr K S H v d) ∧ (lookT kvs k = none → atKey xs k = none) := by
  induction pr with
  | nil => exact ⟨fun d e => (by cases e), fun _ => rfl⟩
  | @cons p x ps xs h t ih =>
    obtain ⟨h1, h2, h3, v, h4, h5⟩ := h
    unfold lookT atKey
    rw [List.find?_cons, List.find?_cons, ← h1]
    by_cases hk : p.1 = k
    · rw [decide_eq_true hk]
      refine ⟨fun d e => ?_, fun e => by cases e⟩
      cases e
      exact ⟨_, _, v, rfl, h4, h5⟩
    · rw [decide_eq_false hk]
      exact ih
theorem look_some {S : Addr → Prop} {H : Hp} {K : PySem.W.Frag} {kvs : List (NestedKey × PyData)} {xs : List (NestedKey × Addr × Value)} (pr : Paired (RowR K S H) kvs xs) (k : NestedKey) : (atKey xs k).isSome = (lookT kvs k).isSome := by
  obtain ⟨h1, h2⟩ := look_row pr k
  cases e : lookT kvs k with
  | none =>
    rw [h2 e]
    rfl
  | some d =>
    obtain ⟨b, u, v, e1, _⟩ := h1 d e
    rw [e1]
    rfl
theorem room_nested (g : Gd X) : (nestedKind X.prog X.w).room X.A.in1 := by
  show X.A.units + 1 + 8 < cLine
  have := g.un
  omega
theorem oc_in (g : Gd X) : OpR X (compareOp .In) (rC X.prog X.w X.K τ opIn) := by
  intro pins s σ H x y v u Q I rx ry ⟨S, dx, dy, r, hx, hy, hg, q⟩
  have hu := g.un
  unfold opIn at hg
  split at hg <;> try (cases hg; done)
  · obtain ⟨hok, hg⟩ := Option.ite_none_right_eq_some.mp hg
    cases hg
    rw [Bool.and_eq_true] at hok
    have ha := ok_le hok.1
    obtain ⟨as, r1⟩ := hx.i.reads I rx
    obtain ⟨bs, r2⟩ := hy.i.reads I ry
    exact SeqAt.in_list_data r2 r1 hy.i.plain hx.i.plain (by omega) ⟨.bl _, H, I, rfl, q⟩
  · obtain ⟨hok, hg⟩ := Option.ite_none_right_eq_some.mp hg
    cases hg
    rw [Bool.and_eq_true] at hok
    have ha := ok_le hok.1
    obtain ⟨as, r1⟩ := hx.i.reads I rx
    obtain ⟨bs, r2⟩ := hy.i.reads I ry
    exact SeqAt.in_tuple_data r2 r1 hy.i.plain hx.i.plain (by omega) ⟨.bl _, H, I, rfl, q⟩
  · rename_i d kvs
    simp only [Option.map_eq_some_iff] at hg
    obtain ⟨k, hk, rfl⟩ := hg
    obtain ⟨a, rfl, _, _, hd⟩ := hy
    obtain ⟨⟨ds, rfl⟩, e1, e2⟩ := nkey_of hk
    obtain ⟨b, ys, rfl, hs, hdd⟩ := hx.i.tup
    cases rx
    cases ry
    obtain ⟨xs, hm, hne, _, pr⟩ := hd.of I
    exact wpAny_in_heap (knd := nestedKind X.prog X.w) (room_nested g) (k := k) ⟨nested_of I (.tuple ds) k _ _ e1 (.tup hs hdd) rfl, e2⟩ hne hm ⟨.bl _, H, I.tok _, rfl, by rw [look_some pr]; exact q⟩
end
end
end BK
set_option Elab.async false
set_option linter.all false
set_option maxRecDepth 100000
set_option maxHeartbeats 1000000
/-! The built-in calls by values. -/
namespace BK
open PySem L2
/-- a call of one value -/
def rQ (P : Program) (w : World) (K : PySem.W.Frag) (τ : Tn) (g : D → Option D) : List V → Hp → VK → Prop := fun vs H Q => ∃ x, vs = [x] ∧ rP P w K τ g x H Q
section
variable {X : Cx} {τ : Tn}
theorem oc_notin (g : Gd X) : OpR X (compareOp .NotIn) (rC X.prog X.w X.K τ fun a b => (opIn a b).map (!·)) := by
  intro pins s σ H x y v u Q I rx ry ⟨S, dx, dy, r, hx, hy, hg, q⟩
  simp only [Option.map_eq_some_iff] at hg
  obtain ⟨r, hg, rfl⟩ := hg
  have hu := g.un
  unfold opIn at hg
  split at hg <;> try (cases hg; done)
  · obtain ⟨hok, hg⟩ := Option.ite_none_right_eq_some.mp hg
    cases hg
    rw [Bool.and_eq_true] at hok
    have ha := ok_le hok.1
    obtain ⟨as, r1⟩ := hx.i.reads I rx
    obtain ⟨bs, r2⟩ := hy.i.reads I ry
    exact SeqAt.notIn_list_data r2 r1 hy.i.plain hx.i.plain (by omega) ⟨.bl _, H, I, rfl, q⟩
  · obtain ⟨hok, hg⟩ := Option.ite_none_right_eq_some.mp hg
    cases hg
    rw [Bool.and_eq_true] at hok
    have ha := ok_le hok.1
    obtain ⟨as, r1⟩ := hx.i.reads I rx
    obtain ⟨bs, r2⟩ := hy.i.reads I ry
    exact SeqAt.notIn_tuple_data r2 r1 hy.i.plain hx.i.plain (by omega) ⟨.bl _, H, I, rfl, q⟩
  · rename_i d kvs
    simp only [Option.map_eq_some_iff] at hg
    obtain ⟨k, hk, rfl⟩ := hg
    obtain ⟨a, rfl, _, _, hd⟩ := hy
    obtain ⟨⟨ds, rfl⟩, e1, e2⟩ := nkey_of hk
    obtain ⟨b, ys, rfl, hs, hdd⟩ := hx.i.tup
    cases rx
    cases ry
    obtain ⟨xs, hm, hne, _, pr⟩ := hd.of I
    refine notIn_keyed (knd := nestedKind X.prog X.w) (room_nested g) (k := k) ⟨nested_of I (.tuple ds) k _ _ e1 (.tup hs hdd) rfl, e2⟩ hne ⟨xs, hm, rfl⟩ ⟨.bl _, H, I.tok _, rfl, ?_⟩
    rw [valueAt_pairsH, Option.isSome_map, look_some pr]
    exact q
/-- an item of what has its type's own __getitem__ -/
theorem tail_of {value slice : Expr} {o i : Value} {T id : String} {M : Model} {A : Around} {E : Value → Shared → Prop} {s : Shared} {prog : Program} {w : World} {Q : Value → Shared → Prop} (hM : M = model prog w) (hT : s.TypeIs o T)
    (hl : typeLookup (.type T) "__getitem__" = pure (some (.builtin id))) (h : wpAny M A (getItem o i) Q E s) (hs : subscripted slice false o i = operate [o, i] (getItem o i)) : wpAny M A (PyProof.Rows.subscriptTail value slice o i) Q E s := by
  subst hM
  have key : wpAny (model prog w) A (subscripted slice false o i) (fun r s' => wpAny (model prog w) A (letTemporaryGo value o r >>= fun _ => pure r) Q E s') E s := by
    rw [hs]
    exact wpAny_operating (wpAny_mono h (fun r s' z => wpAny_bind (wpAny_letTemporaryGo (wpAny_pure z))) fun _ _ z => z)
  unfold PyProof.Rows.subscriptTail
  rw [getitemInPython_of_ne hT.not_modules]
  refine wpAny_bind (wpAny_bind (wpAny_specialOf hT hl ?_))
  first
    | exact wpAny_bind key
    | exact wpAny_pure (wpAny_bind key)
    | exact wpAny_bind (wpAny_pure (wpAny_bind key))
theorem Paired.atI {K : PySem.W.Frag} {S : Addr → Prop} {H : Hp} {vs : List V} {ds : List PyData} {i : Int} {d : PyData} (h : Drs K S H vs ds) (e : atI ds i = some d) : ∃ v, atI vs i = some v ∧ Dr K S H v d := by
  unfold L2.atI at e ⊢
  rw [h.length]
  cases q : ixN ds.length i with
  | none => rw [q] at e; cases e
  | some j =>
    rw [q] at e
    exact h.get e
theorem kv_of {d : PyData} {k : Key} {K : PySem.W.Frag} {S : Addr → Prop} {H : Hp} {v : V} (h : kkey d = some k) (r : DrI K S H v d) : v = kV k := by
  unfold kkey at h
  split at h
  · cases h; rw [r.int]; rfl
  · cases h; rw [r.str]; rfl
  · cases h
theorem look_k {K : PySem.W.Frag} {S : Addr → Prop} {H : Hp} {kvs : List (Key × PyData)} {vs : List (Key × V)} (pr : Paired (fun (p : Key × PyData) (q : Key × V) => p.1 = q.1 ∧ Dr K S H q.2 p.2) kvs vs) {k : Key} {d : PyData} (e : lookT kvs k = some d) : ∃ v, valV vs k = some v ∧ Dr K S H v d := by
  induction pr with
  | nil => cases e
  | @cons p x ps xs h t ih =>
    unfold lookT at e
    unfold valV
    rw [List.find?_cons] at e ⊢
    rw [← h.1]
    by_cases hk : p.1 = k
    · rw [decide_eq_true hk] at e ⊢
      cases e
      exact ⟨_, rfl, h.2⟩
    · rw [decide_eq_false hk] at e ⊢
      exact ih e
theorem ix_all (g : Gd X) : IxR X (rB X.prog X.w X.K τ opIdx) := by
  intro value slice pins s σ H x y v u Q I rx ry ⟨S, dx, dy, r, hS, hx, hy, hg, q⟩ hsub
  unfold opIdx at hg
  split at hg <;> try (cases hg; done)
  · simp only [Option.map_eq_some_iff] at hg
    obtain ⟨d, e, rfl⟩ := hg
    obtain rfl := hy.i.int
    obtain ⟨p, xs, rfl, hp, hd⟩ := hx.i.lst
    obtain ⟨w', e', hw⟩ := Paired.atI hd e
    exact ix_list value slice pins s σ H _ _ v u Q I rx ry ⟨p, xs, _, w', rfl, rfl, SqL.of hp, e', q _ _ (Al.refl H) hw⟩ hsub
  · simp only [Option.map_eq_some_iff] at hg
    obtain ⟨d, e, rfl⟩ := hg
    obtain rfl := hy.i.int
    obtain ⟨p, xs, rfl, hp, hd⟩ := hx.i.tup
    obtain ⟨w', e', hw⟩ := Paired.atI hd e
    exact ix_tup value slice pins s σ H _ _ v u Q I rx ry ⟨p, xs, _, w', rfl, rfl, hp, e', q _ _ (Al.refl H) hw⟩ hsub
  · rename_i z i
    obtain ⟨hl, hg⟩ := Option.ite_none_right_eq_some.mp hg
    simp only [Option.map_eq_some_iff] at hg
    obtain ⟨c, e, rfl⟩ := hg
    obtain rfl := hy.i.int
    obtain rfl := hx.i.str
    exact ix_str value slice pins s σ H _ _ v u Q I rx ry ⟨z, i, c, rfl, rfl, hl, e, q _ _ (Al.refl H) (.str _)⟩ hsub
  · rename_i kvs d
    simp only [Option.bind_eq_some_iff, Option.map_eq_some_iff] at hg
    obtain ⟨k, hk, d', e, rfl⟩ := hg
    obtain ⟨a, rfl, _, _, vs, ha, pr⟩ := hx
    obtain ⟨w', e', hw⟩ := look_k pr e
    obtain rfl := kv_of hk hy.i
    cases rx
    have dg : DGet H a (kV k) (some w') := by
      rw [← e']
      exact DGet.k ha
    obtain ⟨hT⟩ : Nonempty (s.TypeIs (.ref a) "dict") := ⟨dict_typeIs I dg⟩
    refine tail_of rfl hT PySem.F.slot_dict_getitem.lookup (d_getItem g.u1 I dg ry fun w2 s2 I2 r2 => ⟨w', H, I2, r2, q _ _ (Al.refl H) hw⟩) hsub
  · rename_i kvs d
    simp only [Option.bind_eq_some_iff, Option.map_eq_some_iff] at hg
    obtain ⟨k, hk, d', e, rfl⟩ := hg
    obtain ⟨a, rfl, _, _, hd⟩ := hx
    obtain ⟨⟨ds, rfl⟩, e1, e2⟩ := nkey_of hk
    obtain ⟨b, ys, rfl, hs, hdd⟩ := hy.i.tup
    cases rx
    cases ry
    obtain ⟨xs, hm, hne, _, pr⟩ := hd.of I
    obtain ⟨b', u', w', e', r', hw⟩ := (look_row pr k).1 d' e
    refine tail_of rfl hm.typeIs PySem.F.slot_dict_getitem.lookup (wpAny_getItem_heap (knd := nestedKind X.prog X.w) (room_nested g) (k := k) ⟨nested_of I (.tuple ds) k _ _ e1 (.tup hs hdd) rfl, e2⟩ hm e' ⟨w', H, I.tok _, r', q _ _ (Al.refl H) hw⟩) hsub
end
end BK
set_option Elab.async false
set_option linter.all false
set_option maxRecDepth 100000
set_option maxHeartbeats 1000000
/-! The built-in calls by values, on. -/
namespace BK
open PySem L2
section
variable {X : Cx} {τ : Tn}
theorem cq_len : CallR X (.builtin "len") (rQ X.prog X.w X.K τ opLen) := by
  intro pins s σ H vs us Q I r ⟨x, e, S, dx, rr, hS, hx, hg, q⟩
  subst e
  unfold opLen at hg
  split at hg <;> try (cases hg; done)
  · cases hg
    obtain ⟨p, xs, rfl, hp, hd⟩ := hx.i.lst
    exact call_len_seq pins s σ H _ us Q I r ⟨p, xs, rfl, .inl (SqL.of hp), by rw [hd.length]; exact q _ _ (Al.refl H) (.int _)⟩
  · cases hg
    obtain ⟨p, xs, rfl, hp, hd⟩ := hx.i.tup
    exact call_len_seq pins s σ H _ us Q I r ⟨p, xs, rfl, .inr hp, by rw [hd.length]; exact q _ _ (Al.refl H) (.int _)⟩
  · obtain ⟨hl, hg⟩ := Option.ite_none_right_eq_some.mp hg
    cases hg
    obtain rfl := hx.i.str
    exact call_len_str pins s σ H _ us Q I r ⟨_, rfl, hl, q _ _ (Al.refl H) (.int _)⟩
theorem bools_of {K : PySem.W.Frag} {S : Addr → Prop} {H : Hp} : ∀ {ds : List PyData} {bs : List Bool} {vs : List V}, bools ds = some bs → Drs K S H vs ds → vs = bs.map V.bl
  | [], _, _, e, h => by cases e; cases h; rfl
  | d :: ds, bs, _, e, h => by
    cases h with
    | cons h1 h2 =>
      cases d with
      | bool b =>
        unfold bools at e
        simp only [Option.map_eq_some_iff] at e
        obtain ⟨r, e, rfl⟩ := e
        cases h1
        rw [bools_of e h2]
        rfl
      | none => cases e
      | int _ => cases e
      | str _ => cases e
      | list _ => cases e
      | tuple _ => cases e
      | dict _ => cases e
theorem cq_all (g : Gd X) : CallR X (.builtin "all") (rQ X.prog X.w X.K τ opAll) := by
  intro pins s σ H vs us Q I r ⟨x, e, S, dx, rr, hS, hx, hg, q⟩
  subst e
  unfold opAll at hg
  split at hg <;> try (cases hg; done)
  simp only [Option.map_eq_some_iff] at hg
  obtain ⟨bs, e, rfl⟩ := hg
  obtain ⟨p, xs, rfl, hp, hd⟩ := hx.i.lst
  obtain rfl := bools_of e hd
  exact cr_all g.calm pins s σ H _ us Q I r ⟨p, bs, rfl, SqL.of hp, q _ _ (Al.refl H) (.bl _)⟩
theorem cq_tuple : CallR X (.type "tuple") (rQ X.prog X.w X.K τ opTuple) := by
  intro pins s σ H vs us Q I r ⟨x, e, S, dx, rr, hS, hx, hg, q⟩
  subst e
  unfold opTuple at hg
  split at hg <;> try (cases hg; done)
  · cases hg
    obtain ⟨p, xs, rfl, hp, hd⟩ := hx.i.lst
    exact call_tuple_of pins s σ H _ us Q I r ⟨p, xs, rfl, .inl ⟨SqL.of hp, fun l nl => q _ _ (Al.new nl) (Dr.newT nl hd)⟩⟩
  · cases hg
    obtain ⟨p, xs, rfl, hp, hd⟩ := hx.i.tup
    exact call_tuple_of pins s σ H _ us Q I r ⟨p, xs, rfl, .inr ⟨hp, q _ _ (Al.refl H) (.tup hp hd)⟩⟩
theorem cq_list : CallR X (.type "list") (rQ X.prog X.w X.K τ opList) := by
  intro pins s σ H vs us Q I r ⟨x, e, S, dx, rr, hS, hx, hg, q⟩
  subst e
  unfold opList at hg
  split at hg <;> try (cases hg; done)
  · cases hg
    obtain ⟨p, xs, rfl, hp, hd⟩ := hx.i.lst
    exact call_list_of pins s σ H _ us Q I r ⟨p, xs, rfl, .inl (SqL.of hp), fun l nl => q _ _ (Al.new nl) (Dr.newL hS nl hd)⟩
  · cases hg
    obtain ⟨p, xs, rfl, hp, hd⟩ := hx.i.tup
    exact call_list_of pins s σ H _ us Q I r ⟨p, xs, rfl, .inr hp, fun l nl => q _ _ (Al.new nl) (Dr.newL hS nl hd)⟩

/-! ### sorting -/
theorem sortable_of {ds : List PyData} (h : sortable ds = true) : ds.length ≤ sizeLine ∧ W.AllAlike ds ∧ (∀ d ∈ ds, d.depth ≤ 60) ∧ W.Sortable ds := by
  unfold sortable fits at h
  simp only [Bool.and_eq_true, decide_eq_true_eq, List.all_eq_true, Bool.or_eq_true] at h
  obtain ⟨⟨⟨h1, h2⟩, h3⟩, h4⟩ := h
  refine ⟨h1, fun d hd d' hd' => h2 d hd d' hd', fun d hd => ok_le (h3 d hd), ?_⟩
  rcases h4 with h4 | h4
  · refine .inl fun d hd => ?_
    have z := h4 d hd
    split at z
    · exact ⟨_, _, rfl⟩
    · cases z
  · refine .inr fun d hd => ?_
    have z := h4 d hd
    cases d with
    | none => exact absurd z (by simp)
    | tuple xs => exact absurd z (by simp)
    | _ => exact ⟨fun e => (by cases e), fun xs e => (by cases e)⟩
/-- the values read, one by one -/
theorem each_of {pins : List (Addr × Obj)} {s : Shared} {σ : St} {H : Hp} {S : Addr → Prop} (I : Inv X pins σ H s) : ∀ {ds : List PyData} {vs : List V} {us : List Value}, Drs X.K S H vs ds → Vals vs us →
    W.EachIs (fun u d => ∃ v, RelV v u ∧ Dr X.K S H v d) us ds ∧ W.EachIs (fun u d => ∃ as, Reads s.heap u (id d) as) us ds
  | _, _, _, .nil, .nil => ⟨.nil, .nil⟩
  | _, _, _, .cons h1 h2, .cons r1 r2 => by
    obtain ⟨a, b⟩ := each_of I h2 r2
    exact ⟨.cons ⟨_, r1, h1⟩ a, .cons (h1.i.reads I r1) b⟩
theorem of_each {H : Hp} {S : Addr → Prop} {K : PySem.W.Frag} : ∀ {us : List Value} {ds : List PyData}, W.EachIs (fun u d => ∃ v, RelV v u ∧ Dr K S H v d) us ds → ∃ vs, Vals vs us ∧ Drs K S H vs ds
  | _, _, .nil => ⟨[], .nil, .nil⟩
  | _, _, .cons ⟨v, r, h⟩ t => by
    obtain ⟨vs, a, b⟩ := of_each t
    exact ⟨v :: vs, .cons r a, .cons h b⟩
theorem sort_list (g : Gd X) {pins : List (Addr × Obj)} {s : Shared} {σ : St} {H : Hp} {S : Addr → Prop} {a : Addr} {its : List Value} {vs : List V} {ds : List PyData} {Q : VK} (I : Inv X pins σ H s) (hS : ∀ a, S a → H a ≠ none)
    (hl : PySem.Heap.IsList s.heap a its.toArray) (rv : Vals vs its) (hd : Drs X.K S H vs ds) (hg : sortable ds = true) (q : ∀ v H', Al H H' → Dr X.K S H' v (.list (sortD ds)) → Q v H') :
    wpAny (model X.prog X.w) X.A (call (.builtin "sorted") [.ref a]) (EP X pins σ Q) X.xe s := by
  obtain ⟨h1, h2, h3, h4⟩ := sortable_of hg
  obtain ⟨e1, e2⟩ := each_of I hd rv
  have hu := g.un
  refine W.sorted_data (enc := id) (bs := ds) hl e1 e2 (by rw [List.map_id]; exact h2) (by rw [List.map_id]; exact h4) h1 (fun d hd => by have := h3 d hd; show X.A.units + 2 + d.depth < cLine; omega) fun out h5 h6 => ?_
  obtain ⟨ep, he⟩ := PyProof.Rows.sortedAll_at s.heap its out.toArray
  obtain ⟨ws, r2, d2⟩ := of_each h6
  have n : H (s.heap.objs.size + 1) = none := I.hok.fresh (Nat.le_succ _)
  have hlen : ws.length ≤ sizeLine := by rw [r2.length, h5]; exact h1
  refine ⟨.ref _, upd H (s.heap.objs.size + 1) (.lst ws), I.laid (t' := s.toks) (fun _ _ z => PyProof.Rows.sortedAll_old z) (Nat.le_succ _) ⟨hlen, out, ep, r2, he⟩, rfl, q _ _ (Al.new n) (Dr.newL hS n d2)⟩
theorem cq_min (g : Gd X) : CallR X (.builtin "min") (rQ X.prog X.w X.K τ opMin) := by
  intro pins s σ H vs us Q I r ⟨x, e, S, dx, rr, hS, hx, hg, q⟩
  subst e
  unfold opMin at hg
  split at hg <;> try (cases hg; done)
  rename_i d ds
  obtain ⟨hok, hg⟩ := Option.ite_none_right_eq_some.mp hg
  cases hg
  obtain ⟨p, xs, rfl, hp, hd⟩ := hx.i.lst
  obtain ⟨h1, h2, h3, h4⟩ := sortable_of hok
  obtain ⟨its, rv, hl, _⟩ := I.list (SqL.of hp)
  rw [Vals.ref1 r]
  obtain ⟨as, hr⟩ := Dp.readsAll I (d :: ds) xs its hd.dp rv
  have hu := g.un
  have hdep : PyData.depthAll (d :: ds) ≤ 60 := by
    have key : ∀ l : List PyData, (∀ z ∈ l, z.depth ≤ 60) → PyData.depthAll l ≤ 60 := by
      intro l
      induction l with
      | nil => intro _; simp [PyData.depthAll]
      | cons z l ih =>
        intro hz
        have a1 := hz z List.mem_cons_self
        have a2 := ih fun y hy => hz y (List.mem_cons_of_mem _ hy)
        simp only [PyData.depthAll]
        omega
    exact key _ h3
  have hne : ∀ z ∈ d :: ds, z ≠ PyData.none := fun z hz e => by
    rcases h4 with h4 | h4
    · obtain ⟨y, r, e'⟩ := h4 z hz
      rw [e] at e'
      cases e'
    · exact (h4 z hz).1 e
  refine W.min_list_data (I.ok.hd g.calm) hl.isList (by simpa using hr) ⟨h2, fun z hz e => hne z hz e⟩ (by omega) fun i v h' tk bs hv hrd hk => ?_
  have hv' : its[i]? = some v := by simpa using hv
  have hi : i < its.length := (List.getElem?_eq_some_iff.mp hv').1
  have hlen : xs.length = its.length := rv.length
  have hx' : xs[i]? = some xs[i] := List.getElem?_eq_getElem (by omega)
  obtain ⟨u, eu, ru⟩ := rv.get hx'
  rw [hv'] at eu
  cases eu
  have hdl := hd.length
  have hd' : (d :: ds)[i]? = some (d :: ds)[i] := List.getElem?_eq_getElem (by omega)
  obtain ⟨w', ew, hw⟩ := hd.get hd'
  rw [hx'] at ew
  cases ew
  obtain ⟨as', hr'⟩ := hw.i.reads I ru
  have e := SeqAt.plain_unique _ _ _ _ _ hw.plain (PyProof.Rows.Reads.keeps hk hr') hrd
  refine ⟨_, H, I.kept (t' := tk) hk, ru, q _ _ (Al.refl H) ?_⟩
  show Dr X.K S H _ _
  rw [← e]
  exact hw
theorem cq_str : CallR X (.type "str") (rQ X.prog X.w X.K τ opStr) := by
  intro pins s σ H vs us Q I r ⟨x, e, S, dx, rr, hS, hx, hg, q⟩
  subst e
  unfold opStr at hg
  split at hg <;> try (cases hg; done)
  · rename_i i
    obtain ⟨hl, hg⟩ := Option.ite_none_right_eq_some.mp hg
    cases hg
    obtain rfl := hx.i.int
    refine call_str_int pins s σ H _ us Q I r ⟨_, rfl, ?_, q _ _ (Al.refl H) (.str _)⟩
    have : i.natAbs.log2 ≤ i.natAbs := Nat.log2_le_self _
    by_cases h0 : i.natAbs = 0
    · rw [h0]; decide
    · exact Nat.lt_of_lt_of_le ((Nat.log2_lt h0).mpr (Nat.lt_of_lt_of_le hl (by decide : 1000000 ≤ 2 ^ 20))) (by decide)
  · cases hg
    obtain rfl := hx.i.str
    exact SkE.call_str_str pins s σ H _ us Q I r ⟨_, rfl, q _ _ (Al.refl H) (.str _)⟩
theorem cq_int : CallR X (.type "int") (rQ X.prog X.w X.K τ opInt) := by
  intro pins s σ H vs us Q I r ⟨x, e, S, dx, rr, hS, hx, hg, q⟩
  subst e
  unfold opInt at hg
  split at hg <;> try (cases hg; done)
  obtain ⟨hl, hg⟩ := Option.ite_none_right_eq_some.mp hg
  simp only [Option.map_eq_some_iff] at hg
  obtain ⟨n, e, rfl⟩ := hg
  obtain rfl := hx.i.str
  exact call_int_str pins s σ H _ us Q I r ⟨_, n, rfl, e, hl, q _ _ (Al.refl H) (.int _)⟩
end
end BK
set_option Elab.async false
set_option linter.all false
set_option maxRecDepth 100000
set_option maxHeartbeats 1000000
/-! isinstance, methods, slices. -/
namespace BK
open PySem L2
def tyN : PyData → String
  | .none => "NoneType"
  | .bool _ => "bool"
  | .int _ => "int"
  | .str _ => "str"
  | .list _ => "list"
  | .tuple _ => "tuple"
  | .dict _ => "dict"
def Ty.nm : Ty → String
  | .int => "int"
  | .bool => "bool"
  | .tuple => "tuple"
  | .str => "str"
theorem kit_all (t : Ty) (d : PyData) (h : d.plain = true) (K : PySem.W.Frag) : PySem.W.kitOne K (.type (tyN d)) (.type t.nm) = some (isTy t d) := by
  refine kit_ty ?_
  cases d with
  | dict _ => cases h
  | none =>
    cases t with
    | int => exact (by decide +kernel : kitB "NoneType" "int" = some false)
    | bool => exact (by decide +kernel : kitB "NoneType" "bool" = some false)
    | tuple => exact (by decide +kernel : kitB "NoneType" "tuple" = some false)
    | str => exact (by decide +kernel : kitB "NoneType" "str" = some false)
  | bool _ =>
    cases t with
    | int => exact (by decide +kernel : kitB "bool" "int" = some true)
    | bool => exact (by decide +kernel : kitB "bool" "bool" = some true)
    | tuple => exact (by decide +kernel : kitB "bool" "tuple" = some false)
    | str => exact (by decide +kernel : kitB "bool" "str" = some false)
  | int _ =>
    cases t with
    | int => exact (by decide +kernel : kitB "int" "int" = some true)
    | bool => exact (by decide +kernel : kitB "int" "bool" = some false)
    | tuple => exact (by decide +kernel : kitB "int" "tuple" = some false)
    | str => exact (by decide +kernel : kitB "int" "str" = some false)
  | str _ =>
    cases t with
    | int => exact (by decide +kernel : kitB "str" "int" = some false)
    | bool => exact (by decide +kernel : kitB "str" "bool" = some false)
    | tuple => exact (by decide +kernel : kitB "str" "tuple" = some false)
    | str => exact (by decide +kernel : kitB "str" "str" = some true)
  | list _ =>
    cases t with
    | int => exact (by decide +kernel : kitB "list" "int" = some false)
    | bool => exact (by decide +kernel : kitB "list" "bool" = some false)
    | tuple => exact (by decide +kernel : kitB "list" "tuple" = some false)
    | str => exact (by decide +kernel : kitB "list" "str" = some false)
  | tuple _ =>
    cases t with
    | int => exact (by decide +kernel : kitB "tuple" "int" = some false)
    | bool => exact (by decide +kernel : kitB "tuple" "bool" = some false)
    | tuple => exact (by decide +kernel : kitB "tuple" "tuple" = some true)
    | str => exact (by decide +kernel : kitB "tuple" "str" = some false)
theorem tyx_of {K : PySem.W.Frag} {S : Addr → Prop} {H : Hp} {v : V} {d : PyData} (h : DrI K S H v d) : TyX K H v (.type (tyN d)) := by
  cases d with
  | none => rw [h.non]; exact .base .non
  | bool _ => rw [h.bl]; exact .base (.bl _)
  | int _ => rw [h.int]; exact .base (.int _)
  | str _ => rw [h.str]; exact .base (.str _)
  | list _ =>
    obtain ⟨a, xs, rfl, e, _⟩ := h.lst
    exact .base (.lst e)
  | tuple _ =>
    obtain ⟨a, xs, rfl, e, _⟩ := h.tup
    rcases e with (e | ⟨o, e⟩) | ⟨o, its, n, e, c, _⟩
    · exact .base (.tup e)
    · exact .fTuple e
    · exact .kTuple e c
  | dict _ => exact absurd h.plain (by simp [PyData.plain])
/-- isinstance(x, T) -/
def rIs (P : Program) (w : World) (K : PySem.W.Frag) (τ : Tn) (t : Ty) : List V → Hp → VK → Prop := fun vs H Q => ∃ (S : Addr → Prop) (x : V) (d : PyData), vs = [x, .ty t.nm] ∧ Dv P w K τ S false H x (.dat d) ∧ Q (.bl (isTy t d)) H
section
variable {X : Cx} {τ : Tn}
theorem cq_is (t : Ty) : CallR X (.builtin "isinstance") (rIs X.prog X.w X.K τ t) := by
  intro pins s σ H vs us Q I r ⟨S, x, d, e, hx, q⟩
  subst e
  exact call_isi pins s σ H _ us Q I r ⟨x, .ty t.nm, .type (tyN d), .type t.nm, _, rfl, .ty _, tyx_of hx.i, kit_all t d hx.i.plain _, q⟩

/-! ### slices -/
def rS (P : Program) (w : World) (K : PySem.W.Frag) (τ : Tn) : V → Option Int → Option Int → Hp → VK → Prop := fun x lo hi H Q => ∃ (S : Addr → Prop) (dx r : D), (∀ a, S a → H a ≠ none) ∧
  Dv P w K τ S false H x dx ∧ opCut dx lo hi = some r ∧ ∀ v H', Al H H' → Dv P w K τ S true H' v r → Q v H'
theorem cut_whole {α : Type} {xs : List α} {lo hi : Option Int} (h : HT.sIx xs.length 0 lo = 0 ∧ HT.sIx xs.length xs.length hi = xs.length) : cut xs lo hi = xs := by
  unfold BK.cut
  rw [h.1, h.2]
  simp
theorem sl_all : SlR X (rS X.prog X.w X.K τ) := by
  intro pins s σ H x v vl vu lo hi sl Q I rx hs pl pu ⟨S, dx, r, hS, hx, hg, q⟩
  unfold opCut at hg
  split at hg <;> try (cases hg; done)
  · cases hg
    obtain ⟨p, xs, rfl, hp, hd⟩ := hx.i.lst
    exact sl_list pins s σ H _ v vl vu lo hi sl Q I rx hs pl pu ⟨p, xs, rfl, SqL.of hp, fun l nl => q _ _ (Al.new nl) (Dr.newL hS nl (hd.cut lo hi))⟩
  · cases hg
    obtain ⟨p, xs, rfl, hp, hd⟩ := hx.i.tup
    refine sl_tupA pins s σ H _ v vl vu lo hi sl Q I rx hs pl pu ⟨p, xs, rfl, hp, fun e => ?_, fun _ l nl => q _ _ (Al.new nl) (Dr.newT nl (hd.cut lo hi))⟩
    rw [hd.length] at e
    rw [cut_whole e] at q
    exact q _ _ (Al.refl H) (.tup hp hd)
  · obtain ⟨hl, hg⟩ := Option.ite_none_right_eq_some.mp hg
    cases hg
    obtain rfl := hx.i.str
    exact sl_str pins s σ H _ v vl vu lo hi sl Q I rx hs pl pu ⟨_, rfl, hl, q _ _ (Al.refl H) (.str _)⟩
end
end BK
set_option Elab.async false
set_option linter.all false
set_option maxRecDepth 100000
set_option maxHeartbeats 1000000
/-! What the small language says of the text; its meaning as readings. -/
namespace BK
open PySem L2

/-! ### the text -/
def visB (sc : Scope) (x : Str) : Bool := match sc.names.lookup x with
  | some .local => true
  | some .cell => true
  | some .free => true
  | _ => false
def locB (sc : Scope) (x : Str) : Bool := match sc.names.lookup x with
  | some .local => true
  | some .cell => true
  | _ => false
def glB (sc : Scope) (x : Str) : Bool := match sc.names.lookup x with
  | some .globalImplicit => true
  | _ => false
def notDbg (x : Str) : Bool := !(x == ("__debug__" : Str)) && !(x == ("__classdict__" : Str))
def constOk : PyData → Const → Bool
  | .none, .none => true
  | .bool b, .bool c => b == c
  | .int i, .int j => i == j
  | .str x, .str y => x == y
  | _, _ => false
def boOk : BO → Operator → Bool
  | .add, .Add => true
  | .sub, .Sub => true
  | .mul, .Mult => true
  | .mod, .Mod => true
  | .fdiv, .FloorDiv => true
  | _, _ => false
def coOk : CO → CmpOp → Bool
  | .eq, .Eq => true
  | .ne, .NotEq => true
  | .lt, .Lt => true
  | .le, .LtE => true
  | .gt, .Gt => true
  | .ge, .GtE => true
  | .isin, .In => true
  | .notin, .NotIn => true
  | _, _ => false
def P1.nm : P1 → Str
  | .len => "len" | .all => "all" | .tuple => "tuple" | .list => "list" | .sorted => "sorted" | .min => "min" | .str => "str" | .int => "int"
def Ty.st : Ty → Str
  | .int => "int" | .bool => "bool" | .tuple => "tuple" | .str => "str"

mutual
def sameD : PyData → PyData → Bool
  | .none, .none => true
  | .bool b, .bool c => b == c
  | .int i, .int j => i == j
  | .str x, .str y => x == y
  | .tuple xs, .tuple ys => sameDs xs ys
  | _, _ => false
def sameDs : List PyData → List PyData → Bool
  | [], [] => true
  | x :: xs, y :: ys => sameD x y && sameDs xs ys
  | _, _ => false
end
mutual
theorem sameD_eq : ∀ (a b : PyData), sameD a b = true → a = b
  | .none, b, h => by cases b <;> first | rfl | (simp [sameD] at h)
  | .bool x, b, h => by cases b <;> simp [sameD] at h; rw [h]
  | .int x, b, h => by cases b <;> simp [sameD] at h; rw [h]
  | .str x, b, h => by cases b <;> simp [sameD] at h; rw [h]
  | .tuple xs, b, h => by
    cases b <;> simp [sameD] at h
    rw [sameDs_eq xs _ h]
  | .list _, b, h => by simp [sameD] at h
  | .dict _, b, h => by simp [sameD] at h
theorem sameDs_eq : ∀ (a b : List PyData), sameDs a b = true → a = b
  | [], b, h => by cases b <;> first | rfl | (simp [sameDs] at h)
  | x :: xs, b, h => by
    cases b with
    | nil => simp [sameDs] at h
    | cons y ys =>
      simp only [sameDs, Bool.and_eq_true] at h
      rw [sameD_eq x y h.1, sameDs_eq xs ys h.2]
end

/-- the names of what is said -/
structure Nm where
  N : List Str
  GN : List Str
  CN : List (Str × PyData)

def isNm (sc : Scope) (x : Str) : Expr → Bool
  | .Name y _ => y == x && glB sc y
  | _ => false
def starred : Expr → Bool
  | .Starred .. => true
  | _ => false
def slicy : Expr → Bool
  | .Slice .. => true
  | _ => false
def kwVals : List Keyword → Option (List Expr)
  | [] => some []
  | k :: r => match k.arg, kwVals r with
    | some _, some es => some (k.value :: es)
    | _, _ => none

mutual
/-- no a if t else b stands where a test is asked -/
def noIte : CE → Bool
  | .ite .. => false
  | .and es => noItes es
  | .or es => noItes es
  | .not a => noIte a
  | _ => true
def noItes : CEs → Bool
  | .nil => true
  | .cons e r => noIte e && noItes r
end
section
variable (nm : Nm)
mutual
def ckTg (fnb : Str → Bool) (sc : Scope) : Tg → Expr → Bool
  | .v i, .Name x _ => nm.N[i]? == some x && locB sc x && (fnb x || sc.names.lookup x == some .local)
  | .t ts, .Tuple es _ _ => ckTgs fnb sc ts es
  | _, _ => false
def ckTgs (fnb : Str → Bool) (sc : Scope) : List Tg → List Expr → Bool
  | [], [] => true
  | t :: ts, e :: es => ckTg fnb sc t e && ckTgs fnb sc ts es
  | _, _ => false
end
def blkFn (scope : Scope) (x : Str) : Bool := scope.names.lookup x == some .cell
def ownOf (own : List Nat) : List (Str × Nat) := own.map fun i => (nm.N.getD i Str.empty, i)
mutual
def ck (sc : Scope) : CE → Expr → Bool
  | .cst d, e_ => (match e_ with
    | .Constant c _ _ => constOk d c
    | _ => false)
  | .gcon x d, e_ => (match e_ with
    | .Name y _ => y == x && glB sc x && notDbg x && (match nm.CN.lookup x with | some d' => sameD d' d | none => false)
    | _ => false)
  | .fnc i, e_ => (match e_ with
    | .Name x _ => glB sc x && notDbg x && nm.GN[i]? == some x
    | _ => false)
  | .var i, e_ => (match e_ with
    | .Name x _ => nm.N[i]? == some x && visB sc x && notDbg x
    | _ => false)
  | .tup es, e_ => (match e_ with
    | .Tuple l _ _ => cks sc es l
    | _ => false)
  | .lst es, e_ => (match e_ with
    | .List l _ => cks sc es l
    | _ => false)
  | .bin o a b, e_ => (match e_ with
    | .BinOp l op r _ => boOk o op && ck sc a l && ck sc b r
    | _ => false)
  | .neg a, e_ => (match e_ with
    | .UnaryOp .USub e _ => ck sc a e
    | _ => false)
  | .cmp o a b, e_ => (match e_ with
    | .Compare l [op] [r] _ => coOk o op && ck sc a l && ck sc b r
    | _ => false)
  | .isN a, e_ => (match e_ with
    | .Compare l [.Is] [.Constant .none _ _] _ => ck sc a l
    | _ => false)
  | .notN a, e_ => (match e_ with
    | .Compare l [.IsNot] [.Constant .none _ _] _ => ck sc a l
    | _ => false)
  | .chn a b c, e_ => (match e_ with
    | .Compare l [.LtE, .LtE] [m, r] _ => ck sc a l && ck sc b m && ck sc c r
    | _ => false)
  | .and es, e_ => (match e_ with
    | .BoolOp .And l _ => cks sc es l && !l.isEmpty
    | _ => false)
  | .or es, e_ => (match e_ with
    | .BoolOp .Or l _ => cks sc es l && !l.isEmpty
    | _ => false)
  | .not a, e_ => (match e_ with
    | .UnaryOp .Not e _ => ck sc a e
    | _ => false)
  | .ite c a b, e_ => (match e_ with
    | .IfExp t x y _ => noIte c && ck sc c t && ck sc a x && ck sc b y
    | _ => false)
  | .idx a b, e_ => (match e_ with
    | .Subscript l r _ => ck sc a l && ck sc b r && !slicy r
    | _ => false)
  | .slL a lo, e_ => (match e_ with
    | .Subscript l (.Slice (some x) none none _) _ => ck sc a l && ck sc lo x
    | _ => false)
  | .slH a hi, e_ => (match e_ with
    | .Subscript l (.Slice none (some x) none _) _ => ck sc a l && ck sc hi x
    | _ => false)
  | .sl2 a lo hi, e_ => (match e_ with
    | .Subscript l (.Slice (some x) (some y) none _) _ => ck sc a l && ck sc lo x && ck sc hi y
    | _ => false)
  | .slR _, _ => false
  | .lc own tg it elt, e_ => (match e_ with
    | .ListComp e [⟨t, i, [], 0⟩] scope _ => blkC nm.N sc scope (ownOf nm own) && (tgSl tg).all own.contains && ckTg nm (blkFn scope) (relS scope sc) tg t && ckI sc it i t && ck (relS scope sc) elt e
    | _ => false)
  | .lcIf own tg it cond elt, e_ => (match e_ with
    | .ListComp e [⟨t, i, [c], 0⟩] scope _ => blkC nm.N sc scope (ownOf nm own) && (tgSl tg).all own.contains && ckTg nm (blkFn scope) (relS scope sc) tg t && ckI sc it i t && noIte cond && ck (relS scope sc) cond c && ck (relS scope sc) elt e
    | _ => false)
  | .call f es, e_ => (match e_ with
    | .Call (.Name x _) l [] _ => glB sc x && notDbg x && nm.GN[f]? == some x && cks sc es l
    | _ => false)
  | .callv _ _, _ => false
  | .p1 p a, e_ => (match e_ with
    | .Call f [e] [] _ => isNm sc p.nm f && ck sc a e
    | _ => false)
  | .lrng a, e_ => (match e_ with
    | .Call f [.Call g [e] [] _] [] _ => isNm sc "list" f && isNm sc "range" g && ck sc a e
    | _ => false)
  | .trng a, e_ => (match e_ with
    | .Call f [.Call g [e] [] _] [] _ => isNm sc "tuple" f && isNm sc "range" g && ck sc a e
    | _ => false)
  | .isi a t, e_ => (match e_ with
    | .Call f [e, g] [] _ => isNm sc "isinstance" f && isNm sc t.st g && ck sc a e
    | _ => false)
  | .ssort _, _ => false
  | .lset a, e_ => (match e_ with
    | .Call f [.Call g [e] [] _] [] _ => isNm sc "len" f && isNm sc "set" g && ck sc a e
    | _ => false)
  | .dke _, _ => false
  | .lenum _, _ => false
  | .dnew, _ => false
  | .done _ _, _ => false
  | .dget _ _ _, _ => false
  | .meth _ _ _, _ => false
  | .res _, _ => false
def cks (sc : Scope) : CEs → List Expr → Bool
  | .nil, [] => true
  | .cons c r, e :: es => ck sc c e && cks sc r es
  | _, _ => false
def ckI (sc : Scope) : CI → Expr → Expr → Bool
  | .seq c, e, _ => ck sc c e
  | .rng c, e, _ => (match e with
    | .Call f [e] [] _ => isNm sc "range" f && ck sc c e
    | _ => false)
  | .enum _, _, _ => false
  | .zip a b, e, t => (match e, t with
    | .Call f [x, y] [] _, .Tuple .. => isNm sc "zip" f && ck sc a x && ck sc b y
    | _, _ => false)
  | .keys _, _, _ => false
end
end

/-! ### readings -/
section
variable {τ : Tn} {E : XK} {H : Hp} {s : Twn}
/-- what is wanted of an outcome, from the heap H on -/
def Ok {α : Type} (τ : Tn) (E : XK) (H : Hp) (r : Res α) (Q : α → Twn → Hp → Prop) : Prop :=
  Wp r (fun a s' => ∀ H', Xt τ H H' → TownR τ H' s' → Q a s' H') fun c s' => ∀ H', Xt τ H H' → TownR τ H' s' → E (τ.cl c) none H'
theorem Ok.bnd {α β : Type} {x : M α} {f : α → M β} {Q : β → Twn → Hp → Prop} (h : Ok τ E H ((x >>= f) s) Q) : Ok τ E H (x s) fun a s' H1 => Ok τ E H1 (f a s') Q :=
  Wp.mono (Wp.bnd h) (fun a s' h1 H1 e1 _ => Wp.mono h1 (fun b s2 h2 H2 e2 t2 => h2 H2 (e1.trans e2) t2) fun c s2 h2 H2 e2 t2 => h2 H2 (e1.trans e2) t2) fun c s' h1 => h1
theorem Ok.imp {α : Type} {r : Res α} {Q Q' : α → Twn → Hp → Prop} (h : Ok τ E H r Q) (f : ∀ a s' H', Xt τ H H' → TownR τ H' s' → Q a s' H' → Q' a s' H') : Ok τ E H r Q' :=
  Wp.mono h (fun a s' h1 H' e t => f a s' H' e t (h1 H' e t)) fun c s' h1 => h1
theorem Ok.of {α : Type} {o : Option α} {Q : α → Twn → Hp → Prop} (h : Ok τ E H (M.of o s) Q) : ∃ a, o = some a ∧ ∀ H', Xt τ H H' → TownR τ H' s → Q a s H' := Wp.of h
theorem Ok.ret {α : Type} {a : α} {Q : α → Twn → Hp → Prop} (h : Ok τ E H (M.ret a s) Q) : ∀ H', Xt τ H H' → TownR τ H' s → Q a s H' := h
theorem Ok.iff {α : Type} {c : Prop} [Decidable c] {x y : M α} {Q : α → Twn → Hp → Prop} (h : Ok τ E H ((if c then x else y) s) Q) : (c ∧ Ok τ E H (x s) Q) ∨ (¬ c ∧ Ok τ E H (y s) Q) := Wp.iff h
theorem Ok.ifN {α : Type} {c : Prop} [Decidable c] {x : M α} {Q : α → Twn → Hp → Prop} (h : Ok τ E H ((if c then x else M.non) s) Q) : c ∧ Ok τ E H (x s) Q := Wp.ifN h
theorem Ok.int {d : D} {Q : Int → Twn → Hp → Prop} (h : Ok τ E H (intOf d s) Q) : ∃ i, d = int i ∧ ∀ H', Xt τ H H' → TownR τ H' s → Q i s H' := by
  unfold intOf at h
  split at h
  · exact ⟨_, rfl, h⟩
  · exact h.elim
theorem Ok.dat {d : D} {Q : PyData → Twn → Hp → Prop} (h : Ok τ E H (datOf d s) Q) : ∃ p, d = .dat p ∧ ∀ H', Xt τ H H' → TownR τ H' s → Q p s H' := by
  unfold datOf at h
  split at h
  · exact ⟨_, rfl, h⟩
  · exact h.elim
theorem Ok.tru {d : D} {Q : Bool → Twn → Hp → Prop} (h : Ok τ E H (truth d s) Q) : ∃ b, d = bl b ∧ ∀ H', Xt τ H H' → TownR τ H' s → Q b s H' := by
  unfold truth at h
  split at h
  · exact ⟨_, rfl, h⟩
  · exact h.elim
end
/-- what there is around a piece of text -/
structure Ar where
  P : Program
  w : World
  K : PySem.W.Frag
  τ : Tn
  B : Addr → Prop
  E : XK
section
variable (a : Ar)
abbrev Ar.Rp (env : Env) (σ : St) (H : Hp) : Prop := Rep a.P a.w a.K a.τ a.B env σ H
abbrev Ar.Va (env : Env) (σ : St) (md : Bool) (H : Hp) (v : V) (d : D) : Prop := Dv a.P a.w a.K a.τ (Av a.B env σ) md H v d
def tD (md : Bool) (m : Env → M D) : TE := fun σ H Q => ∃ env s, a.Rp env σ H ∧ TownR a.τ H s ∧ Ok a.τ a.E H (m env s) fun d _ H' => ∀ v, a.Va env σ md H' v d → Q v H'
def tT (m : Env → M Bool) : TT := fun σ H Q => ∃ env s, a.Rp env σ H ∧ TownR a.τ H s ∧ Ok a.τ a.E H (m env s) fun b _ H' => Q b H'
inductive Dvs (a : Ar) (S : Addr → Prop) (H : Hp) : List V → List D → Prop
  | nil : Dvs a S H [] []
  | cons {v : V} {vs : List V} {d : D} {ds : List D} : Dv a.P a.w a.K a.τ S true H v d → Dvs a S H vs ds → Dvs a S H (v :: vs) (d :: ds)
def tA (m : Env → M (List D)) : TA := fun σ H Q => ∃ env s, a.Rp env σ H ∧ TownR a.τ H s ∧ Ok a.τ a.E H (m env s) fun ds _ H' => ∀ vs, Dvs a (Av a.B env σ) H' vs ds → Q vs H'
/-- the iterator gives ds one by one, while all but R stays -/
def ItOk (K : PySem.W.Frag) (S R : Addr → Prop) (H : Hp) (J : It) (ds : List PyData) : Prop :=
  ∀ (S' : Addr → Prop) (i : Nat) (H' : Hp), (∀ a, S' a → S a ∨ H a = none) → (∀ a, R a → S' a) → Ke R H H' → (∀ d, ds[i]? = some d → J.go i H' ∧ ∀ x H'', J.yld i H' x H'' → Al H' H'' ∧ Dr K S' H'' x d) ∧ (ds.length ≤ i → J.stop i H')
/-- md: what the loop walks stays although the frame writes -/
def tI (md : Bool) (m : Env → M (List PyData)) : TI := fun σ H R => ∃ env s, a.Rp env σ H ∧ TownR a.τ H s ∧ Ok a.τ a.E H (m env s) fun ds _ H' => ∀ J, ItOk a.K (Av a.B env σ) (if md then Av a.B env σ else a.τ.T) H' J ds → R J H'
end
theorem _root_.L2.PE.imp {X : Cx} {e : Expr} {t t' : TE} (h : PE X e t) (f : ∀ σ H Q, t' σ H Q → t σ H Q) : PE X e t' := ⟨fun pins s σ H Q I z => h.run pins s σ H Q I (f _ _ _ z)⟩
theorem _root_.L2.PT.imp {X : Cx} {e : Expr} {t t' : TT} (h : PT X e t) (f : ∀ σ H Q, t' σ H Q → t σ H Q) : PT X e t' := ⟨fun pins s σ H Q I z => h.run pins s σ H Q I (f _ _ _ z)⟩
theorem _root_.L2.PA.imp {X : Cx} {e : List Expr} {t t' : TA} (h : PA X e t) (f : ∀ σ H Q, t' σ H Q → t σ H Q) : PA X e t' := ⟨fun pos pins s σ H Q I z => h.run pos pins s σ H Q I (f _ _ _ z)⟩
theorem _root_.L2.PI.imp {X : Cx} {tg e : Expr} {t t' : TI} (h : PI X tg e t) (f : ∀ σ H Q, t' σ H Q → t σ H Q) : PI X tg e t' := ⟨fun pins s σ H Q I z => h.run pins s σ H Q I (f _ _ _ z)⟩
end BK
set_option Elab.async false
set_option linter.all false
set_option maxRecDepth 100000
set_option maxHeartbeats 2000000
/-! The readings of the parts are the readings of the whole: expressions. -/
namespace BK
open PySem L2

abbrev arOf (X : Cx) (τ : Tn) (B : Addr → Prop) (E : XK) : Ar := ⟨X.prog, X.w, X.K, τ, B, E⟩
section
variable {X : Cx} {τ : Tn} {B : Addr → Prop} {E : XK} {md : Bool} {pos : Pos} {env : Env} {σ : St} {H H' : Hp} {s : Twn}

theorem Rep.keep (R : Rep X.prog X.w X.K τ B env σ H) (t : TownR τ H s) (x : Xt τ H H') : Rep X.prog X.w X.K τ B env σ H' := R.xt t x
theorem Va.keep {v : V} {d : D} (R : Rep X.prog X.w X.K τ B env σ H) (t : TownR τ H s) (x : Xt τ H H') (h : Dv X.prog X.w X.K τ (Av B env σ) md H v d) : Dv X.prog X.w X.K τ (Av B env σ) md H' v d := Xt.dv x t R.tS h

theorem sn_val {e : Expr} {v : V} {d : D} (h : PE X e (tC v)) (hv : ∀ S H, Dv X.prog X.w X.K τ S true H v d) : PE X e (tD (arOf X τ B E) md fun _ => M.ret d) :=
  h.imp fun σ H Q ⟨env, s, R, t, h⟩ => h.ret H (Xt.refl H) t v (hv _ _).weak
theorem sn_var {x : Str} {i : Nat} (hN : X.N[i]? = some x) (hv : Vis X.env.scope x) (h1 : (x == ("__debug__" : Str)) = false) (h2 : (x == ("__classdict__" : Str)) = false) (G : Nat → Fun) :
    PE X (.Name x pos) (tD (arOf X τ B E) md (ev G md (.var i))) := by
  refine (pe_var hN hv h1 h2).imp fun σ H Q ⟨env, s, R, t, h⟩ => ?_
  simp only [ev] at h
  cases he : env[i]? with
  | none =>
    rw [he] at h
    exact h.elim
  | some o =>
    cases o with
    | none =>
      rw [he] at h
      exact h.elim
    | some p =>
      obtain ⟨o, d⟩ := p
      rw [he] at h
      simp only at h
      by_cases hc : (md && o) = true
      · rw [if_pos hc] at h
        exact h.elim
      · rw [if_neg hc] at h
        cases o with
        | false =>
          obtain ⟨v, e1, e2⟩ := R.val i d he
          exact ⟨v, e1, h.ret H (Xt.refl H) t v e2.weak⟩
        | true =>
          cases md with
          | true => exact absurd rfl hc
          | false =>
            obtain ⟨p, e1, _, _, e2⟩ := R.own i d he
            exact ⟨.ref p, e1, h.ret H (Xt.refl H) t _ e2⟩

/-! ### lists of expressions -/
theorem sn_nil : PA X [] (tA (arOf X τ B E) fun _ => M.ret []) := pa_nil.imp fun σ H Q ⟨env, s, R, t, h⟩ => h.ret H (Xt.refl H) t [] .nil
theorem Dvs.keep {a : Ar} {S : Addr → Prop} {vs : List V} {ds : List D} (x : Xt a.τ H H') (t : TownR a.τ H s) (hS : ∀ b, a.τ.T b → S b) (h : Dvs a S H vs ds) : Dvs a S H' vs ds := by
  induction h with
  | nil => exact .nil
  | cons h _ ih => exact .cons (Xt.dv x t hS h) ih
theorem sn_cons {e : Expr} {es : List Expr} {m : Env → M D} {ms : Env → M (List D)} (h : PE X e (tD (arOf X τ B E) true m)) (hs : PA X es (tA (arOf X τ B E) ms)) (hst : starEach (e :: es) X.env = (false, eval e X.env) :: starEach es X.env) :
    PA X (e :: es) (tA (arOf X τ B E) fun env => do let x ← m env; let xs ← ms env; M.ret (x :: xs)) := by
  refine (pa_cons h hs hst).imp fun σ H Q ⟨env, s, R, t, h⟩ => ?_
  refine ⟨env, s, R, t, h.bnd.imp fun x s1 H1 e1 t1 h1 v dv => ?_⟩
  refine ⟨env, s1, R.xt t e1, t1, h1.bnd.imp fun xs s2 H2 e2 t2 h2 vs dvs => ?_⟩
  exact h2.ret H2 (Xt.refl H2) t2 (v :: vs) (.cons (Xt.dv e2 t1 R.tS dv) dvs)
theorem datL_of {a : Ar} {S : Addr → Prop} : ∀ {ds : List D} {ps : List PyData} {vs : List V}, datL ds = some ps → Dvs a S H vs ds → Drs a.K S H vs ps
  | [], _, _, e, h => by
    cases h
    cases e
    exact .nil
  | d :: ds, _, _, e, h => by
    cases h with
    | cons h1 h2 =>
      cases d with
      | dat p =>
        unfold datL at e
        simp only [Option.map_eq_some_iff] at e
        obtain ⟨r, e, rfl⟩ := e
        exact .cons h1 (datL_of e h2)
      | dK _ => cases e
      | dT _ => cases e
      | fn _ => cases e
      | town => cases e
      | scr => cases e
theorem fits_of {ds : List PyData} (h : fits ds = true) : ds.length ≤ sizeLine := of_decide_eq_true h
theorem sn_tup {es : List Expr} {k : Nat} {ms : Env → M (List D)} (h : PA X es (tA (arOf X τ B E) ms)) :
    PE X (.Tuple es k pos) (tD (arOf X τ B E) md fun env => do let ds ← ms env; let ds ← M.of (datL ds); if fits ds then M.ret (tup ds) else M.non) := by
  refine (pe_tup h).imp fun σ H Q ⟨env, s, R, t, h⟩ => ?_
  refine ⟨env, s, R, t, h.bnd.imp fun ds s1 H1 e1 t1 h1 vs dvs => ?_⟩
  obtain ⟨ps, ep, h2⟩ := h1.bnd.of
  obtain ⟨hf, h3⟩ := (h2 H1 (Xt.refl H1) t1).ifN
  have hd := datL_of ep dvs
  refine ⟨by rw [hd.length]; exact fits_of hf, fun p np => h3.ret _ (Al.new np).xt ((Al.new np).town t1) _ (Dv.weak (d := .dat _) (Dr.newT np hd))⟩
theorem sn_lst {es : List Expr} {ms : Env → M (List D)} (h : PA X es (tA (arOf X τ B E) ms)) :
    PE X (.List es pos) (tD (arOf X τ B E) md fun env => do let ds ← ms env; let ds ← M.of (datL ds); if fits ds then M.ret (lst ds) else M.non) := by
  refine (pe_lst h).imp fun σ H Q ⟨env, s, R, t, h⟩ => ?_
  refine ⟨env, s, R, t, h.bnd.imp fun ds s1 H1 e1 t1 h1 vs dvs => ?_⟩
  obtain ⟨ps, ep, h2⟩ := h1.bnd.of
  obtain ⟨hf, h3⟩ := (h2 H1 (Xt.refl H1) t1).ifN
  have hd := datL_of ep dvs
  refine ⟨by rw [hd.length]; exact fits_of hf, fun p np => h3.ret _ (Al.new np).xt ((Al.new np).town t1) _ (Dv.weak (d := .dat _) (Dr.newL (R.xt t e1).sdom np hd))⟩

/-! ### operators -/
theorem sn_bin {l r : Expr} {op : Operator} {g : D → D → Option D} {m1 m2 : Env → M D} (ho : OpR X (binaryOp op) (rB X.prog X.w X.K τ g)) (hl : PE X l (tD (arOf X τ B E) false m1)) (hr : PE X r (tD (arOf X τ B E) false m2)) :
    PE X (.BinOp l op r pos) (tD (arOf X τ B E) md fun env => do let x ← m1 env; let y ← m2 env; M.of (g x y)) := by
  refine (pe_op ho hl hr).imp fun σ H Q ⟨env, s, R, t, h⟩ => ?_
  refine ⟨env, s, R, t, h.bnd.imp fun x s1 H1 e1 t1 h1 v dv => ?_⟩
  refine ⟨env, s1, R.xt t e1, t1, h1.bnd.imp fun y s2 H2 e2 t2 h2 u du => ?_⟩
  obtain ⟨d, ed, h3⟩ := h2.of
  exact ⟨_, x, y, d, ((R.xt t e1).xt t1 e2).sdom, Xt.dv e2 t1 R.tS dv, du, ed, fun w' H' al dw => h3 H' al.xt (al.town t2) w' dw.weak⟩
theorem sn_cmp {l r : Expr} {op : CmpOp} {g : D → D → Option Bool} {m1 m2 : Env → M D} (ho : OpR X (compareOp op) (rC X.prog X.w X.K τ g)) (hl : PE X l (tD (arOf X τ B E) false m1)) (hr : PE X r (tD (arOf X τ B E) false m2)) (hm : behindInMarks op r = false) :
    PE X (.Compare l [op] [r] pos) (tD (arOf X τ B E) md fun env => do let x ← m1 env; let y ← m2 env; let b ← M.of (g x y); M.ret (bl b)) := by
  refine (pe_cmpR ho hl hr hm).imp fun σ H Q ⟨env, s, R, t, h⟩ => ?_
  refine ⟨env, s, R, t, h.bnd.imp fun x s1 H1 e1 t1 h1 v dv => ?_⟩
  refine ⟨env, s1, R.xt t e1, t1, h1.bnd.imp fun y s2 H2 e2 t2 h2 u du => ?_⟩
  obtain ⟨d, ed, h3⟩ := h2.bnd.of
  exact ⟨_, x, y, d, Xt.dv e2 t1 R.tS dv, du, ed, (h3 H2 (Xt.refl H2) t2).ret H2 (Xt.refl H2) t2 _ (Dv.weak (d := .dat _) (.bl d))⟩
theorem sn_cmpT {l r : Expr} {op : CmpOp} {g : D → D → Option Bool} {m1 m2 : Env → M D} (ho : OpR X (compareOp op) (rC X.prog X.w X.K τ g)) (hl : PE X l (tD (arOf X τ B E) false m1)) (hr : PE X r (tD (arOf X τ B E) false m2)) (hm : behindInMarks op r = false) :
    PT X (.Compare l [op] [r] pos) (tT (arOf X τ B E) fun env => do let x ← m1 env; let y ← m2 env; M.of (g x y)) := by
  refine (pt_cmpR ho hl hr hm).imp fun σ H Q ⟨env, s, R, t, h⟩ => ?_
  refine ⟨env, s, R, t, h.bnd.imp fun x s1 H1 e1 t1 h1 v dv => ?_⟩
  refine ⟨env, s1, R.xt t e1, t1, h1.bnd.imp fun y s2 H2 e2 t2 h2 u du => ?_⟩
  obtain ⟨d, ed, h3⟩ := h2.of
  exact ⟨_, x, y, d, Xt.dv e2 t1 R.tS dv, du, ed, d, rfl, h3 H2 (Xt.refl H2) t2⟩
theorem sn_neg {e : Expr} {m : Env → M D} (h : PE X e (tD (arOf X τ B E) false m)) : PE X (.UnaryOp .USub e pos) (tD (arOf X τ B E) md fun env => do let i ← intOf (← m env); M.ret (int (-i))) := by
  refine (pe_un un_neg h).imp fun σ H Q ⟨env, s, R, t, h⟩ => ?_
  refine ⟨env, s, R, t, h.bnd.imp fun x s1 H1 e1 t1 h1 v dv => ?_⟩
  obtain ⟨i, rfl, h2⟩ := h1.bnd.int
  obtain rfl := dv.i.int
  exact ⟨i, rfl, (h2 H1 (Xt.refl H1) t1).ret H1 (Xt.refl H1) t1 _ (Dv.weak (d := .dat _) (.int _))⟩
theorem non_iff {K : PySem.W.Frag} {S : Addr → Prop} {v : V} {d : PyData} (h : DrI K S H v d) : decide (v = .non) = isNon d := by
  cases d with
  | none => rw [h.non]; rfl
  | bool _ => rw [h.bl]; rfl
  | int _ => rw [h.int]; rfl
  | str _ => rw [h.str]; rfl
  | list _ =>
    obtain ⟨a, xs, rfl, _⟩ := h.lst
    rfl
  | tuple _ =>
    obtain ⟨a, xs, rfl, _⟩ := h.tup
    rfl
  | dict _ => exact absurd h.plain (by simp [PyData.plain])
theorem sn_isN {e : Expr} {m : Env → M D} {k : Nat} {p : Pos} (h : PE X e (tD (arOf X τ B E) false m)) :
    PE X (.Compare e [.Is] [.Constant .none k p] pos) (tD (arOf X τ B E) md fun env => do let x ← datOf (← m env); M.ret (bl (isNon x))) := by
  refine (pe_cmp (pc_isN h)).imp fun σ H Q ⟨env, s, R, t, h⟩ => ?_
  refine ⟨env, s, R, t, h.bnd.imp fun x s1 H1 e1 t1 h1 v dv => ?_⟩
  obtain ⟨i, rfl, h2⟩ := h1.bnd.dat
  rw [non_iff dv.i]
  exact (h2 H1 (Xt.refl H1) t1).ret H1 (Xt.refl H1) t1 _ (Dv.weak (d := .dat _) (.bl _))
theorem sn_notN {e : Expr} {m : Env → M D} {k : Nat} {p : Pos} (h : PE X e (tD (arOf X τ B E) false m)) :
    PE X (.Compare e [.IsNot] [.Constant .none k p] pos) (tD (arOf X τ B E) md fun env => do let x ← datOf (← m env); M.ret (bl (!isNon x))) := by
  refine (pe_cmp (pc_notN h)).imp fun σ H Q ⟨env, s, R, t, h⟩ => ?_
  refine ⟨env, s, R, t, h.bnd.imp fun x s1 H1 e1 t1 h1 v dv => ?_⟩
  obtain ⟨i, rfl, h2⟩ := h1.bnd.dat
  rw [non_iff dv.i]
  exact (h2 H1 (Xt.refl H1) t1).ret H1 (Xt.refl H1) t1 _ (Dv.weak (d := .dat _) (.bl _))
theorem sn_chn {x y z : Expr} {m1 m2 m3 : Env → M D} (h1 : PE X x (tD (arOf X τ B E) false m1)) (h2 : PE X y (tD (arOf X τ B E) false m2)) (h3 : PE X z (tD (arOf X τ B E) false m3)) :
    PE X (.Compare x [.LtE, .LtE] [y, z] pos) (tD (arOf X τ B E) md fun env => do
      let x ← intOf (← m1 env)
      let y ← intOf (← m2 env)
      if x ≤ y then
        let z ← intOf (← m3 env)
        M.ret (bl (decide (y ≤ z)))
      else M.ret (bl false)) := by
  refine (pe_chain op_le op_le h1 h2 h3 (hm := nomark (op := .LtE) z)).imp fun σ H Q ⟨env, s, R, t, h⟩ => ?_
  refine ⟨env, s, R, t, h.bnd.imp fun x s1 H1 e1 t1 h1 v dv => ?_⟩
  obtain ⟨i, rfl, k1⟩ := h1.bnd.int
  obtain rfl := dv.i.int
  refine ⟨env, s1, R.xt t e1, t1, (k1 H1 (Xt.refl H1) t1).bnd.imp fun y s2 H2 e2 t2 h2 u du => ?_⟩
  obtain ⟨j, rfl, k2⟩ := h2.bnd.int
  obtain rfl := du.i.int
  refine ⟨i, j, rfl, rfl, decide (i ≤ j), rfl, ?_⟩
  rcases (k2 H2 (Xt.refl H2) t2).iff with ⟨hc, h3⟩ | ⟨hc, h3⟩
  · rw [if_pos (decide_eq_true hc)]
    refine ⟨env, s2, (R.xt t e1).xt t1 e2, t2, h3.bnd.imp fun z s3 H3 e3 t3 h3 w' dw => ?_⟩
    obtain ⟨k, rfl, k3⟩ := h3.bnd.int
    obtain rfl := dw.i.int
    exact ⟨j, k, rfl, rfl, (k3 H3 (Xt.refl H3) t3).ret H3 (Xt.refl H3) t3 _ (Dv.weak (d := .dat _) (.bl _))⟩
  · rw [if_neg (by rw [decide_eq_false hc]; exact Bool.false_ne_true)]
    exact h3.ret H2 (Xt.refl H2) t2 _ (Dv.weak (d := .dat _) (.bl _))

/-! ### tests -/
theorem sn_tt {e : Expr} {m : Env → M D} (h : PE X e (tD (arOf X τ B E) true m)) (he : ∀ whole, isTrue e X.env whole = (do let v ← whole; standAt e.pos; holding [v] (truthy v))) : PT X e (tT (arOf X τ B E) fun env => do truth (← m env)) := by
  refine (pt_val h he).imp fun σ H Q ⟨env, s, R, t, h⟩ => ?_
  refine ⟨env, s, R, t, h.bnd.imp fun x s1 H1 e1 t1 h1 v dv => ?_⟩
  obtain ⟨b, rfl, h2⟩ := h1.tru
  exact ⟨b, dv.i.bl, h2 H1 (Xt.refl H1) t1⟩
theorem sn_not {e : Expr} {m : Env → M D} (h : PE X e (tD (arOf X τ B E) true m)) : PE X (.UnaryOp .Not e pos) (tD (arOf X τ B E) md fun env => do let r ← truth (← m env); M.ret (bl (!r))) := by
  refine (pe_not h).imp fun σ H Q ⟨env, s, R, t, h⟩ => ?_
  refine ⟨env, s, R, t, h.bnd.imp fun x s1 H1 e1 t1 h1 v dv => ?_⟩
  obtain ⟨b, rfl, h2⟩ := h1.bnd.tru
  exact ⟨b, dv.i.bl, (h2 H1 (Xt.refl H1) t1).ret H1 (Xt.refl H1) t1 _ (Dv.weak (d := .dat _) (.bl _))⟩
theorem sn_notT {e : Expr} {m : Env → M Bool} (h : PT X e (tT (arOf X τ B E) m)) : PT X (.UnaryOp .Not e pos) (tT (arOf X τ B E) fun env => do let r ← m env; M.ret (!r)) := by
  refine (pt_not h).imp fun σ H Q ⟨env, s, R, t, h⟩ => ?_
  exact ⟨env, s, R, t, h.bnd.imp fun x s1 H1 e1 t1 h1 => h1.ret H1 (Xt.refl H1) t1⟩
theorem sn_and1 {e : Expr} {m : Env → M D} (h : PE X e (tD (arOf X τ B E) true m)) : PE X (.BoolOp .And [e] pos) (tD (arOf X τ B E) md fun env => do let r ← (do if ← truth (← m env) then M.ret true else M.ret false); M.ret (bl r)) := by
  refine (pe_one h).imp fun σ H Q ⟨env, s, R, t, h⟩ => ?_
  refine ⟨env, s, R, t, h.bnd.bnd.imp fun x s1 H1 e1 t1 h1 v dv => ?_⟩
  have h1 := h1.bnd
  obtain ⟨b, rfl, h2⟩ := h1.tru
  obtain rfl := dv.i.bl
  have h3 := h2 H1 (Xt.refl H1) t1
  cases b with
  | true =>
    rw [if_pos rfl] at h3
    exact (h3.ret H1 (Xt.refl H1) t1).ret H1 (Xt.refl H1) t1 _ (Dv.weak (d := .dat _) (.bl _))
  | false =>
    rw [if_neg Bool.false_ne_true] at h3
    exact (h3.ret H1 (Xt.refl H1) t1).ret H1 (Xt.refl H1) t1 _ (Dv.weak (d := .dat _) (.bl _))
theorem sn_and {e e2 : Expr} {es : List Expr} {m : Env → M D} {mr : Env → M Bool} (h : PE X e (tD (arOf X τ B E) true m)) (hr : PE X (.BoolOp .And (e2 :: es) pos) (tD (arOf X τ B E) true fun env => do let r ← mr env; M.ret (bl r))) :
    PE X (.BoolOp .And (e :: e2 :: es) pos) (tD (arOf X τ B E) md fun env => do let r ← (do if ← truth (← m env) then mr env else M.ret false); M.ret (bl r)) := by
  refine (pe_and h hr).imp fun σ H Q ⟨env, s, R, t, h⟩ => ?_
  refine ⟨env, s, R, t, h.bnd.bnd.imp fun x s1 H1 e1 t1 h1 v dv => ?_⟩
  have h1 := h1.bnd
  obtain ⟨b, rfl, h2⟩ := h1.tru
  obtain rfl := dv.i.bl
  refine ⟨b, rfl, ?_⟩
  have h3 := h2 H1 (Xt.refl H1) t1
  cases b with
  | true =>
    rw [if_pos rfl] at h3 ⊢
    refine ⟨env, s1, R.xt t e1, t1, ?_⟩
    show Ok τ E H1 (M.bnd (mr env) _ s1) _
    unfold M.bnd Ok
    cases q : mr env s1 with
    | ok r s2 =>
      rw [q] at h3
      intro H2 e2 t2 v hv
      exact (h3 H2 e2 t2).ret H2 (Xt.refl H2) t2 v (Dv.weak hv)
    | exc c s2 => rw [q] at h3; exact h3
    | stuck => rw [q] at h3; exact h3
  | false =>
    rw [if_neg Bool.false_ne_true] at h3 ⊢
    exact (h3.ret H1 (Xt.refl H1) t1).ret H1 (Xt.refl H1) t1 _ (Dv.weak (d := .dat _) (.bl _))
theorem sn_or1 {e : Expr} {m : Env → M D} (h : PE X e (tD (arOf X τ B E) true m)) : PE X (.BoolOp .Or [e] pos) (tD (arOf X τ B E) md fun env => do let r ← (do if ← truth (← m env) then M.ret true else M.ret false); M.ret (bl r)) := by
  refine (pe_one h).imp fun σ H Q ⟨env, s, R, t, h⟩ => ?_
  refine ⟨env, s, R, t, h.bnd.bnd.imp fun x s1 H1 e1 t1 h1 v dv => ?_⟩
  have h1 := h1.bnd
  obtain ⟨b, rfl, h2⟩ := h1.tru
  obtain rfl := dv.i.bl
  have h3 := h2 H1 (Xt.refl H1) t1
  cases b with
  | true =>
    rw [if_pos rfl] at h3
    exact (h3.ret H1 (Xt.refl H1) t1).ret H1 (Xt.refl H1) t1 _ (Dv.weak (d := .dat _) (.bl _))
  | false =>
    rw [if_neg Bool.false_ne_true] at h3
    exact (h3.ret H1 (Xt.refl H1) t1).ret H1 (Xt.refl H1) t1 _ (Dv.weak (d := .dat _) (.bl _))
theorem sn_or {e e2 : Expr} {es : List Expr} {m : Env → M D} {mr : Env → M Bool} (h : PE X e (tD (arOf X τ B E) true m)) (hr : PE X (.BoolOp .Or (e2 :: es) pos) (tD (arOf X τ B E) true fun env => do let r ← mr env; M.ret (bl r))) :
    PE X (.BoolOp .Or (e :: e2 :: es) pos) (tD (arOf X τ B E) md fun env => do let r ← (do if ← truth (← m env) then M.ret true else mr env); M.ret (bl r)) := by
  refine (pe_or h hr).imp fun σ H Q ⟨env, s, R, t, h⟩ => ?_
  refine ⟨env, s, R, t, h.bnd.bnd.imp fun x s1 H1 e1 t1 h1 v dv => ?_⟩
  have h1 := h1.bnd
  obtain ⟨b, rfl, h2⟩ := h1.tru
  obtain rfl := dv.i.bl
  refine ⟨b, rfl, ?_⟩
  have h3 := h2 H1 (Xt.refl H1) t1
  cases b with
  | false =>
    rw [if_neg Bool.false_ne_true] at h3 ⊢
    refine ⟨env, s1, R.xt t e1, t1, ?_⟩
    show Ok τ E H1 (M.bnd (mr env) _ s1) _
    unfold M.bnd Ok
    cases q : mr env s1 with
    | ok r s2 =>
      rw [q] at h3
      intro H2 e2 t2 v hv
      exact (h3 H2 e2 t2).ret H2 (Xt.refl H2) t2 v (Dv.weak hv)
    | exc c s2 => rw [q] at h3; exact h3
    | stuck => rw [q] at h3; exact h3
  | true =>
    rw [if_pos rfl] at h3 ⊢
    exact (h3.ret H1 (Xt.refl H1) t1).ret H1 (Xt.refl H1) t1 _ (Dv.weak (d := .dat _) (.bl _))
theorem sn_andT1 {e : Expr} {m : Env → M Bool} (h : PT X e (tT (arOf X τ B E) m)) : PW X (.BoolOp .And [e] pos) (tT (arOf X τ B E) fun env => do if ← m env then M.ret true else M.ret false) := by
  refine ⟨fun wh pins s σ H Q I z => (pw_and1 h).run wh pins s σ H Q I ?_⟩
  obtain ⟨env, s, R, t, h⟩ := z
  refine ⟨env, s, R, t, h.bnd.imp fun b s1 H1 e1 t1 h1 => ?_⟩
  cases b with
  | true => rw [if_pos rfl] at h1; exact h1.ret H1 (Xt.refl H1) t1
  | false => rw [if_neg Bool.false_ne_true] at h1; exact h1.ret H1 (Xt.refl H1) t1
theorem sn_andT {e e2 : Expr} {es : List Expr} {m mr : Env → M Bool} (h : PT X e (tT (arOf X τ B E) m)) (hr : PW X (.BoolOp .And (e2 :: es) pos) (tT (arOf X τ B E) mr)) :
    PW X (.BoolOp .And (e :: e2 :: es) pos) (tT (arOf X τ B E) fun env => do if ← m env then mr env else M.ret false) := by
  refine ⟨fun wh pins s σ H Q I z => (pw_and h hr).run wh pins s σ H Q I ?_⟩
  obtain ⟨env, s, R, t, h⟩ := z
  refine ⟨env, s, R, t, h.bnd.imp fun b s1 H1 e1 t1 h1 => ?_⟩
  cases b with
  | true =>
    rw [if_pos rfl] at h1 ⊢
    exact ⟨env, s1, R.xt t e1, t1, h1⟩
  | false =>
    rw [if_neg Bool.false_ne_true] at h1 ⊢
    exact h1.ret H1 (Xt.refl H1) t1
theorem sn_orT1 {e : Expr} {m : Env → M Bool} (h : PT X e (tT (arOf X τ B E) m)) : PW X (.BoolOp .Or [e] pos) (tT (arOf X τ B E) fun env => do if ← m env then M.ret true else M.ret false) := by
  refine ⟨fun wh pins s σ H Q I z => (pw_or1 h).run wh pins s σ H Q I ?_⟩
  obtain ⟨env, s, R, t, h⟩ := z
  refine ⟨env, s, R, t, h.bnd.imp fun b s1 H1 e1 t1 h1 => ?_⟩
  cases b with
  | true => rw [if_pos rfl] at h1; exact h1.ret H1 (Xt.refl H1) t1
  | false => rw [if_neg Bool.false_ne_true] at h1; exact h1.ret H1 (Xt.refl H1) t1
theorem sn_orT {e e2 : Expr} {es : List Expr} {m mr : Env → M Bool} (h : PT X e (tT (arOf X τ B E) m)) (hr : PW X (.BoolOp .Or (e2 :: es) pos) (tT (arOf X τ B E) mr)) :
    PW X (.BoolOp .Or (e :: e2 :: es) pos) (tT (arOf X τ B E) fun env => do if ← m env then M.ret true else mr env) := by
  refine ⟨fun wh pins s σ H Q I z => (pw_or h hr).run wh pins s σ H Q I ?_⟩
  obtain ⟨env, s, R, t, h⟩ := z
  refine ⟨env, s, R, t, h.bnd.imp fun b s1 H1 e1 t1 h1 => ?_⟩
  cases b with
  | false =>
    rw [if_neg Bool.false_ne_true] at h1 ⊢
    exact ⟨env, s1, R.xt t e1, t1, h1⟩
  | true =>
    rw [if_pos rfl] at h1 ⊢
    exact h1.ret H1 (Xt.refl H1) t1
theorem sn_ite {c x y : Expr} {mc : Env → M Bool} {m1 m2 : Env → M D} (hc : PT X c (tT (arOf X τ B E) mc)) (h1 : PE X x (tD (arOf X τ B E) md m1)) (h2 : PE X y (tD (arOf X τ B E) md m2)) : PE X (.IfExp c x y pos) (tD (arOf X τ B E) md fun env => do if ← mc env then m1 env else m2 env) := by
  refine (pe_ifExp hc h1 h2).imp fun σ H Q ⟨env, s, R, t, h⟩ => ?_
  refine ⟨env, s, R, t, h.bnd.imp fun b s1 H1 e1 t1 h1 => ?_⟩
  cases b with
  | true =>
    rw [if_pos rfl] at h1 ⊢
    exact ⟨env, s1, R.xt t e1, t1, h1⟩
  | false =>
    rw [if_neg Bool.false_ne_true] at h1 ⊢
    exact ⟨env, s1, R.xt t e1, t1, h1⟩

/-! ### subscripts, slices -/
theorem plainIx {b : Expr} (h : slicy b = false) : PlainIx b := by
  intro o i
  cases b <;> first
    | rfl
    | cases h
theorem sn_idx (g : Gd X) {l r : Expr} {m1 m2 : Env → M D} (hl : PE X l (tD (arOf X τ B E) false m1)) (hr : PE X r (tD (arOf X τ B E) false m2)) (hs : slicy r = false) :
    PE X (.Subscript l r pos) (tD (arOf X τ B E) md fun env => do let x ← m1 env; let y ← m2 env; M.of (opIdx x y)) := by
  refine (pe_ix (ix_all (τ := τ) g) hl hr (plainIx hs)).imp fun σ H Q ⟨env, s, R, t, h⟩ => ?_
  refine ⟨env, s, R, t, h.bnd.imp fun x s1 H1 e1 t1 h1 v dv => ?_⟩
  refine ⟨env, s1, R.xt t e1, t1, h1.bnd.imp fun y s2 H2 e2 t2 h2 u du => ?_⟩
  obtain ⟨d, ed, h3⟩ := h2.of
  exact ⟨_, x, y, d, ((R.xt t e1).xt t1 e2).sdom, Xt.dv e2 t1 R.tS dv, du, ed, fun w' H' al dw => h3 H' al.xt (al.town t2) w' dw.weak⟩
theorem sn_slL {l lo : Expr} {p2 : Pos} {m1 m2 : Env → M D} (hl : PE X l (tD (arOf X τ B E) false m1)) (hr : PE X lo (tD (arOf X τ B E) false m2)) :
    PE X (.Subscript l (.Slice (some lo) none none p2) pos) (tD (arOf X τ B E) md fun env => do let x ← m1 env; let i ← intOf (← m2 env); M.of (opCut x (some i) none)) := by
  refine (pe_slice (sl_all (τ := τ)) hl (po_some hr) po_none).imp fun σ H Q ⟨env, s, R, t, h⟩ => ?_
  refine ⟨env, s, R, t, h.bnd.imp fun x s1 H1 e1 t1 h1 v dv => ?_⟩
  refine ⟨env, s1, R.xt t e1, t1, h1.bnd.imp fun y s2 H2 e2 t2 h2 u du => ?_⟩
  obtain ⟨i, rfl, h3⟩ := h2.bnd.int
  obtain ⟨d, ed, h4⟩ := (h3 H2 (Xt.refl H2) t2).of
  exact ⟨i, du.i.int, _, x, d, ((R.xt t e1).xt t1 e2).sdom, Xt.dv e2 t1 R.tS dv, ed, fun w' H' al dw => h4 H' al.xt (al.town t2) w' dw.weak⟩
theorem sn_slH {l hi : Expr} {p2 : Pos} {m1 m2 : Env → M D} (hl : PE X l (tD (arOf X τ B E) false m1)) (hr : PE X hi (tD (arOf X τ B E) false m2)) :
    PE X (.Subscript l (.Slice none (some hi) none p2) pos) (tD (arOf X τ B E) md fun env => do let x ← m1 env; let i ← intOf (← m2 env); M.of (opCut x none (some i))) := by
  refine (pe_slice (sl_all (τ := τ)) hl po_none (po_some hr)).imp fun σ H Q ⟨env, s, R, t, h⟩ => ?_
  refine ⟨env, s, R, t, h.bnd.imp fun x s1 H1 e1 t1 h1 v dv => ?_⟩
  refine ⟨env, s1, R.xt t e1, t1, h1.bnd.imp fun y s2 H2 e2 t2 h2 u du => ?_⟩
  obtain ⟨i, rfl, h3⟩ := h2.bnd.int
  obtain ⟨d, ed, h4⟩ := (h3 H2 (Xt.refl H2) t2).of
  exact ⟨i, du.i.int, _, x, d, ((R.xt t e1).xt t1 e2).sdom, Xt.dv e2 t1 R.tS dv, ed, fun w' H' al dw => h4 H' al.xt (al.town t2) w' dw.weak⟩
theorem sn_sl2 {l lo hi : Expr} {p2 : Pos} {m1 m2 m3 : Env → M D} (hl : PE X l (tD (arOf X τ B E) false m1)) (hr : PE X lo (tD (arOf X τ B E) false m2)) (hh : PE X hi (tD (arOf X τ B E) false m3)) :
    PE X (.Subscript l (.Slice (some lo) (some hi) none p2) pos) (tD (arOf X τ B E) md fun env => do let x ← m1 env; let i ← intOf (← m2 env); let j ← intOf (← m3 env); M.of (opCut x (some i) (some j))) := by
  refine (pe_slice (sl_all (τ := τ)) hl (po_some hr) (po_some hh)).imp fun σ H Q ⟨env, s, R, t, h⟩ => ?_
  refine ⟨env, s, R, t, h.bnd.imp fun x s1 H1 e1 t1 h1 v dv => ?_⟩
  refine ⟨env, s1, R.xt t e1, t1, h1.bnd.imp fun y s2 H2 e2 t2 h2 u du => ?_⟩
  obtain ⟨i, rfl, h3⟩ := h2.bnd.int
  refine ⟨i, du.i.int, env, s2, (R.xt t e1).xt t1 e2, t2, (h3 H2 (Xt.refl H2) t2).bnd.imp fun z s3 H3 e3 t3 h5 w' dw => ?_⟩
  obtain ⟨j, rfl, h6⟩ := h5.bnd.int
  obtain ⟨d, ed, h4⟩ := (h6 H3 (Xt.refl H3) t3).of
  exact ⟨j, dw.i.int, _, x, d, (((R.xt t e1).xt t1 e2).xt t2 e3).sdom, Xt.dv (e2.trans e3) t1 R.tS dv, ed, fun w' H' al dw => h4 H' al.xt (al.town t3) w' dw.weak⟩
end
end BK
set_option Elab.async false
set_option linter.all false
set_option maxRecDepth 100000
set_option maxHeartbeats 2000000
/-! Targets. -/
namespace BK
open PySem L2
section
variable {P : Program} {w : World} {K : PySem.W.Frag} {τ : Tn} {B : Addr → Prop} {env : Env} {σ : St} {H : Hp}
theorem set_get {α : Type} {l : List α} {i j : Nat} {x y : α} (h : (l.set i x)[j]? = some y) : (j = i ∧ y = x) ∨ (j ≠ i ∧ l[j]? = some y) := by
  by_cases e : j = i
  · subst e
    rw [List.getElem?_set] at h
    simp only [if_true] at h
    split at h
    · exact .inl ⟨rfl, (Option.some.inj h).symm⟩
    · cases h
  · rw [List.getElem?_set_ne (Ne.symm e)] at h
    exact .inr ⟨e, h⟩
/-- a slot takes a value -/
theorem Rep.set {i : Nat} {v : V} {d : D} (R : Rep P w K τ B env σ H) (hv : Dv P w K τ (Av B env σ) true H v d) :
    Rep P w K τ B (env.set i (some (false, d))) (σ.set i (some v)) H ∧ ∀ a, Own (env.set i (some (false, d))) (σ.set i (some v)) a → Own env σ a := by
  have hO : ∀ a, Own (env.set i (some (false, d))) (σ.set i (some v)) a → Own env σ a := fun a ⟨j, e, h1, h2⟩ => by
    rcases set_get h1 with ⟨rfl, z⟩ | ⟨hj, h1⟩
    · cases z
    · rcases set_get h2 with ⟨z, _⟩ | ⟨_, h2⟩
      · exact absurd z hj
      · exact ⟨j, e, h1, h2⟩
  have hA : ∀ a, Av B (env.set i (some (false, d))) (σ.set i (some v)) a → Av B env σ a := fun a h => h.imp id (hO a)
  refine ⟨⟨by rw [List.length_set, List.length_set]; exact R.len, fun j e h => ?_, fun j e h => ?_, fun j k a d1 d2 h1 h2 h3 h4 => ?_, R.dom, R.tB⟩, hO⟩
  · rcases set_get h with ⟨rfl, z⟩ | ⟨hj, h⟩
    · cases z
      have hl : j < env.length := by
        have := (List.getElem?_eq_some_iff.mp h).1
        rwa [List.length_set] at this
      exact ⟨v, by rw [List.getElem?_set_self (by rw [R.len]; exact hl)], Dv.mono hA hv⟩
    · obtain ⟨u, h1, h2⟩ := R.val j e h
      exact ⟨u, by rw [List.getElem?_set_ne (Ne.symm hj)]; exact h1, Dv.mono hA h2⟩
  · rcases set_get h with ⟨rfl, z⟩ | ⟨hj, h⟩
    · cases z
    · obtain ⟨a, h1, h2, h3, h4⟩ := R.own j e h
      exact ⟨a, by rw [List.getElem?_set_ne (Ne.symm hj)]; exact h1, h2, h3, Dv.mono hA h4⟩
  · rcases set_get h1 with ⟨_, z⟩ | ⟨n1, h1⟩
    · cases z
    rcases set_get h2 with ⟨_, z⟩ | ⟨n2, h2⟩
    · cases z
    rw [List.getElem?_set_ne (Ne.symm n1)] at h3
    rw [List.getElem?_set_ne (Ne.symm n2)] at h4
    exact R.inj j k a d1 d2 h1 h2 h3 h4
/-- a slot is forgotten -/
theorem Rep.drop {i : Nat} (R : Rep P w K τ B env σ H) : Rep P w K τ B (env.set i none) (σ.set i none) H ∧ ∀ a, Own (env.set i none) (σ.set i none) a → Own env σ a := by
  have hO : ∀ a, Own (env.set i none) (σ.set i none) a → Own env σ a := fun a ⟨j, e, h1, h2⟩ => by
    rcases set_get h1 with ⟨rfl, z⟩ | ⟨hj, h1⟩
    · cases z
    · rcases set_get h2 with ⟨z, _⟩ | ⟨_, h2⟩
      · exact absurd z hj
      · exact ⟨j, e, h1, h2⟩
  have hA : ∀ a, Av B (env.set i none) (σ.set i none) a → Av B env σ a := fun a h => h.imp id (hO a)
  refine ⟨⟨by rw [List.length_set, List.length_set]; exact R.len, fun j e h => ?_, fun j e h => ?_, fun j k a d1 d2 h1 h2 h3 h4 => ?_, R.dom, R.tB⟩, hO⟩
  · rcases set_get h with ⟨rfl, z⟩ | ⟨hj, h⟩
    · cases z
    · obtain ⟨u, h1, h2⟩ := R.val j e h
      exact ⟨u, by rw [List.getElem?_set_ne (Ne.symm hj)]; exact h1, Dv.mono hA h2⟩
  · rcases set_get h with ⟨rfl, z⟩ | ⟨hj, h⟩
    · cases z
    · obtain ⟨a, h1, h2, h3, h4⟩ := R.own j e h
      exact ⟨a, by rw [List.getElem?_set_ne (Ne.symm hj)]; exact h1, h2, h3, Dv.mono hA h4⟩
  · rcases set_get h1 with ⟨_, z⟩ | ⟨n1, h1⟩
    · cases z
    rcases set_get h2 with ⟨_, z⟩ | ⟨n2, h2⟩
    · cases z
    rw [List.getElem?_set_ne (Ne.symm n1)] at h3
    rw [List.getElem?_set_ne (Ne.symm n2)] at h4
    exact R.inj j k a d1 d2 h1 h2 h3 h4
theorem Rep.wipe (R : Rep P w K τ B env σ H) : ∀ l : List Nat, Rep P w K τ B (wipeE env l) (L2.wipe σ l) H ∧ ∀ a, Own (wipeE env l) (L2.wipe σ l) a → Own env σ a
  | [] => ⟨R, fun _ h => h⟩
  | i :: l => by
    obtain ⟨R1, h1⟩ := Rep.wipe R l
    obtain ⟨R2, h2⟩ := R1.drop (i := i)
    exact ⟨R2, fun a h => h1 a (h2 a h)⟩
end
/-- a target: the value, then what it is to reach; only its own slots change -/
def tG (a : Ar) (tg : Tg) : TG := fun v σ H Q => ∃ env env' d, a.Rp env σ H ∧ Dr a.K (Av a.B env σ) H v d ∧ bindTg tg d env = some env' ∧
  ∀ σ', a.Rp env' σ' H → (∀ b, Own env' σ' b → Own env σ b) → (∀ j, j ∉ tgSl tg → σ'[j]? = σ[j]?) → σ'.length = σ.length → Q σ' H
def tGs (a : Ar) (ts : List Tg) : TGs := fun vs σ H Q => ∃ env env' ds, a.Rp env σ H ∧ Drs a.K (Av a.B env σ) H vs ds ∧ bindTgs ts ds env = some env' ∧
  ∀ σ', a.Rp env' σ' H → (∀ b, Own env' σ' b → Own env σ b) → (∀ j, j ∉ tgSls ts → σ'[j]? = σ[j]?) → σ'.length = σ.length → Q σ' H
section
variable {X : Cx} {τ : Tn} {B : Addr → Prop} {E : XK} {nm : Nm} {fnb : Str → Bool}
theorem nodupN {x : Str} {i : Nat} (h : (nm.N[i]? == some x) = true) : nm.N[i]? = some x := by simpa using h
theorem locB_of {sc : Scope} {x : Str} (h : locB sc x = true) : L2.Loc sc x := by
  unfold locB at h
  split at h
  · exact .inl (by assumption)
  · exact .inr (by assumption)
  · cases h
theorem visB_of {sc : Scope} {x : Str} (h : visB sc x = true) : Vis sc x := by
  unfold visB at h
  split at h
  · exact .inl (by assumption)
  · exact .inr (.inl (by assumption))
  · exact .inr (.inr (by assumption))
  · cases h
theorem glB_of {sc : Scope} {x : Str} (h : glB sc x = true) : sc.names.lookup x = some .globalImplicit := by
  unfold glB at h
  split at h
  · assumption
  · cases h
theorem asg_each {e : Expr} {es : List Expr} {env : PySem.Env} (h : starred e = false) : assignEach (e :: es) env = (false, assign e env) :: assignEach es env := by
  cases e <;> first
    | rfl
    | cases h
mutual
theorem sn_tg (g : Gd X) (hN : X.N = nm.N) (hf : ∀ x, fnb x = true → X.fn x = true) : ∀ (tg : Tg) (e : Expr), ckTg nm fnb X.env.scope tg e = true → PG X e (tG (arOf X τ B E) tg)
  | .v i, e, h => by
    cases e with
    | Name x p =>
      simp only [ckTg, Bool.and_eq_true, Bool.or_eq_true] at h
      obtain ⟨⟨h1, h2⟩, h3⟩ := h
      have h1 := nodupN h1
      have hf' : X.fn x = true ∨ X.env.scope.names.lookup x = some .local := h3.imp (hf x) (by simp)
      refine ⟨fun pins s σ H v u Q I r hq => (pg_name (i := i) (pos := p) g.nd (by rw [hN]; exact h1) (locB_of h2) hf').run pins s σ H v u Q I r ?_⟩
      obtain ⟨env, env', d, R, hd, hb, q⟩ := hq
      simp only [bindTg] at hb
      cases hb
      obtain ⟨R', hO⟩ := R.set (i := i) (d := .dat d) hd
      refine q _ R' hO (fun j hj => ?_) (by rw [List.length_set])
      rw [List.getElem?_set_ne]
      intro z
      exact hj (by simp [tgSl, z])
    | _ => exact absurd h (by simp [ckTg])
  | .t ts, e, h => by
    cases e with
    | Tuple es k p =>
      simp only [ckTg] at h
      obtain ⟨hp, hl, hst⟩ := sn_tgs g hN hf ts es h
      refine ⟨fun pins s σ H v u Q I r hq => (pg_tup (n := es.length) g.calm hp hl hst).run pins s σ H v u Q I r ?_⟩
      obtain ⟨env, env', d, R, hd, hb, q⟩ := hq
      cases hd with
      | tup hs hds =>
        simp only [bindTg] at hb
        refine ⟨_, _, rfl, hs, ?_, env, env', _, R, hds, hb, q⟩
        rw [hds.length]
        have key : ∀ (ts : List Tg) (ds : List PyData) (es : List Expr) (env env' : Env), bindTgs ts ds env = some env' → ckTgs nm fnb X.env.scope ts es = true → ds.length = es.length := by
          intro ts
          induction ts with
          | nil =>
            intro ds es env env' h1 h2
            cases ds with
            | nil =>
              cases es with
              | nil => rfl
              | cons => simp [ckTgs] at h2
            | cons => simp [bindTgs] at h1
          | cons t ts ih =>
            intro ds es env env' h1 h2
            cases ds with
            | nil => simp [bindTgs] at h1
            | cons d ds =>
              cases es with
              | nil => simp [ckTgs] at h2
              | cons e es =>
                simp only [bindTgs, Option.bind_eq_some_iff] at h1
                obtain ⟨m, _, h1⟩ := h1
                simp only [ckTgs, Bool.and_eq_true] at h2
                simp [ih ds es m env' h1 h2.2]
        exact key ts _ es env env' hb h
      | _ => simp [bindTg] at hb
    | _ => exact absurd h (by simp [ckTg])
theorem sn_tgs (g : Gd X) (hN : X.N = nm.N) (hf : ∀ x, fnb x = true → X.fn x = true) : ∀ (ts : List Tg) (es : List Expr), ckTgs nm fnb X.env.scope ts es = true →
    PGs X es (tGs (arOf X τ B E) ts) ∧ (assignEach es X.env).length = es.length ∧ (assignEach es X.env).findIdx? (·.1) = none
  | [], es, h => by
    cases es with
    | nil =>
      refine ⟨⟨fun pins s σ H vs us Q I r hq => pgs_nil.run pins s σ H vs us Q I r ?_⟩, rfl, rfl⟩
      obtain ⟨env, env', ds, R, hd, hb, q⟩ := hq
      cases ds with
      | nil =>
        cases hd
        simp only [bindTgs] at hb
        cases hb
        exact ⟨rfl, q σ R (fun _ h => h) (fun _ _ => rfl) rfl⟩
      | cons => simp [bindTgs] at hb
    | cons => simp [ckTgs] at h
  | t :: ts, es, h => by
    cases es with
    | nil => simp [ckTgs] at h
    | cons e es =>
      simp only [ckTgs, Bool.and_eq_true] at h
      have h1 := sn_tg g hN hf t e h.1
      obtain ⟨h2, h3, h4⟩ := sn_tgs g hN hf ts es h.2
      have ns : starred e = false := by
        clear h1
        cases e with
        | Starred => cases t <;> simp [ckTg] at h
        | _ => rfl
      have ea := asg_each (es := es) (env := X.env) ns
      refine ⟨⟨fun pins s σ H vs us Q I r hq => (pgs_cons h1 h2 (by rw [ea]; rfl)).run pins s σ H vs us Q I r ?_⟩, by rw [ea]; simp [h3], by rw [ea, List.findIdx?_cons]; simp [h4]⟩
      obtain ⟨env, env', ds, R, hd, hb, q⟩ := hq
      cases ds with
      | nil => simp [bindTgs] at hb
      | cons d ds =>
        cases hd with
        | cons hd1 hd2 =>
          simp only [bindTgs, Option.bind_eq_some_iff] at hb
          obtain ⟨m, hb1, hb2⟩ := hb
          refine ⟨_, _, rfl, env, m, d, R, hd1, hb1, fun σ1 R1 o1 k1 l1 => ?_⟩
          refine ⟨m, env', ds, R1, hd2.mono fun a ha => ha.imp id (o1 a), hb2, fun σ2 R2 o2 k2 l2 => ?_⟩
          refine q σ2 R2 (fun b hb => o1 b (o2 b hb)) (fun j hj => ?_) (l2.trans l1)
          simp only [tgSls, List.mem_append, not_or] at hj
          rw [k2 j hj.2, k1 j hj.1]
end
end
end BK
set_option Elab.async false
set_option linter.all false
set_option maxRecDepth 100000
set_option maxHeartbeats 2000000
/-! List comprehensions. -/
namespace BK
open PySem L2
section
variable {P : Program} {w : World} {K : PySem.W.Frag} {τ : Tn} {B S : Addr → Prop} {env env' : Env} {σ : St} {H H' : Hp} {s : Twn}
/-! ### the slots -/
theorem wipe_get {σ : St} {i : Nat} : ∀ {vs : List Nat}, i ∈ vs → (L2.wipe σ vs)[i]? = if i < σ.length then some none else none
  | [], h => by cases h
  | v :: vs, h => by
    unfold L2.wipe
    by_cases e : v = i
    · subst e
      rw [List.getElem?_set, if_pos rfl, wipe_length]
    · rw [List.getElem?_set_ne e]
      exact wipe_get ((List.mem_cons.mp h).resolve_left fun z => e z.symm)
theorem wipe_eq {σ σ' : St} {vs : List Nat} (hl : σ'.length = σ.length) (h : ∀ j, j ∉ vs → σ'[j]? = σ[j]?) : L2.wipe σ' vs = L2.wipe σ vs := by
  apply List.ext_getElem?
  intro j
  by_cases hj : j ∈ vs
  · rw [wipe_get hj, wipe_get hj, hl]
  · rw [wipe_out hj, wipe_out hj, h j hj]
theorem wipeE_out {env : Env} {i : Nat} : ∀ {vs : List Nat}, i ∉ vs → (wipeE env vs)[i]? = env[i]?
  | [], _ => rfl
  | v :: vs, h => by
    unfold wipeE
    rw [List.getElem?_set_ne (fun z => h (by simp [z]))]
    exact wipeE_out fun z => h (List.mem_cons_of_mem _ z)
mutual
theorem bind_out : ∀ (tg : Tg) (d : PyData) (env env' : Env) (j : Nat), bindTg tg d env = some env' → j ∉ tgSl tg → env'[j]? = env[j]?
  | .v i, d, env, env', j, h, hj => by
    simp only [bindTg] at h
    cases h
    unfold setE
    rw [List.getElem?_set_ne]
    intro z
    exact hj (by simp [tgSl, z])
  | .t ts, d, env, env', j, h, hj => by
    cases d with
    | tuple ds =>
      simp only [bindTg] at h
      exact binds_out ts ds env env' j h hj
    | _ => simp [bindTg] at h
theorem binds_out : ∀ (ts : List Tg) (ds : List PyData) (env env' : Env) (j : Nat), bindTgs ts ds env = some env' → j ∉ tgSls ts → env'[j]? = env[j]?
  | [], ds, env, env', j, h, hj => by
    cases ds with
    | nil =>
      simp only [bindTgs] at h
      cases h
      rfl
    | cons => simp [bindTgs] at h
  | t :: ts, ds, env, env', j, h, hj => by
    cases ds with
    | nil => simp [bindTgs] at h
    | cons d ds =>
      simp only [bindTgs, Option.bind_eq_some_iff] at h
      obtain ⟨m, h1, h2⟩ := h
      simp only [tgSls, List.mem_append, not_or] at hj
      rw [binds_out ts ds m env' j h2 hj.2, bind_out t d env m j h1 hj.1]
end
theorem ownFree_of {l : List Nat} (h : ownFree env l = true) {i : Nat} {d : D} (hi : env[i]? = some (some (true, d))) : i ∉ l := fun z => by
  have := List.all_eq_true.mp h i z
  rw [hi] at this
  cases this

/-! ### the list that is made -/
theorem upd_ke {D : Addr} {xs ys : List V} (h : H D = some (.lst ys)) : Ke (fun a => a = D) H (upd H D (.lst xs)) := by
  refine ⟨fun a o n _ e => by rw [upd_ne n]; exact e, fun a n => ?_, fun a zs r => ?_⟩
  · by_cases e : a = D
    · rw [e, upd_same]; simp
    · rw [upd_ne e]; exact n
  · have e : a ≠ D := fun e => by
      rcases r with r | ⟨o, r⟩ <;> rw [e, h] at r <;> cases r
    unfold Rd
    rw [upd_ne e]
    exact r
theorem tabs_upd {T : List (Addr × Str)} {D : Addr} {xs ys : List V} (h : H D = some (.lst ys)) (t : LamX.Tabs T H) : LamX.Tabs T (upd H D (.lst xs)) := fun p hp => by
  obtain ⟨ps, h1, h2, h3⟩ := t p hp
  refine ⟨ps, ?_, h2, fun pos cv hc => ?_⟩
  · rw [upd_ne (fun e => by rw [e, h] at h1; cases h1)]
    exact h1
  · obtain ⟨c, e1, e2⟩ := h3 pos cv hc
    exact ⟨c, e1, by rw [upd_ne (fun e => by rw [e, h] at e2; cases e2)]; exact e2⟩
theorem Scr.upd {D : Addr} {o : HO} (hn : τ.dy = true → D ≠ τ.sa) (t : Scr τ H) : Scr τ (upd H D o) := by
  unfold Scr at t ⊢
  by_cases hd : τ.dy = true
  · rw [if_pos hd] at t ⊢
    unfold Rd
    rw [upd_ne (fun z => hn hd z.symm)]
    exact t
  · rw [if_neg hd] at t ⊢
    exact t
theorem TownR.upd {D : Addr} {xs ys : List V} (h : H D = some (.lst ys)) (hn : τ.dy = true → D ≠ τ.sa) (t : TownR τ H s) : TownR τ (upd H D (.lst xs)) s := by
  refine ⟨?_, ?_, t.2.2.1, tabs_upd h t.2.2.2.1, t.2.2.2.2.upd hn⟩
  · rw [upd_ne (fun e => by have z := t.1; rw [e, h] at z; cases z)]
    exact t.1
  · rw [upd_ne (fun e => by have z := t.2.1; rw [e, h] at z; cases z)]
    exact t.2.1
/-- an address that was free is kept out from then on -/
theorem Rep.guardX {p : Addr} (R : Rep P w K τ B env σ H) (t : TownR τ H s) (hp : H p = none) (hq : H' p ≠ none) (x : Xt τ H H') : Rep P w K τ (fun a => B a ∨ a = p) env σ H' := by
  have hA : ∀ a, Av (fun a => B a ∨ a = p) env σ a → Av B env σ a ∨ a = p := fun a h => by
    rcases h with (h | h) | h
    · exact .inl (.inl h)
    · exact .inr h
    · exact .inl (.inr h)
  have hT : ∀ a, τ.T a → Av (fun a => B a ∨ a = p) env σ a := fun a h => .inl (.inl (R.tB a (.inl h)))
  have dv : ∀ {md : Bool} {v : V} {d : D}, Dv P w K τ (Av B env σ) md H v d → Dv P w K τ (Av (fun a => B a ∨ a = p) env σ) md H' v d := fun {md v d} h => Xt.dv x t hT (Dv.mono hA (Dv.fresh hp h))
  refine ⟨R.len, fun j e h => ?_, fun j e h => ?_, R.inj, fun a h => ?_, fun a h => .inl (R.tB a h)⟩
  · obtain ⟨u, h1, h2⟩ := R.val j e h
    exact ⟨u, h1, dv h2⟩
  · obtain ⟨a, h1, h2, h3, h4⟩ := R.own j e h
    exact ⟨a, h1, fun z => z.elim h2 fun z => h3 (by rw [z]; exact hp), x.2.1 a h3, dv h4⟩
  · rcases h with h | h
    · exact x.2.1 a (R.dom a h)
    · rw [h]; exact hq
end

/-! ### the turns -/
def turnOf (own : List Nat) (tg : Tg) (mt : Env → M Bool) (me : Env → M D) (env : Env) (x : PyData) : M (Option PyData) := M.nox (do
  let e ← M.of (bindTg tg x (wipeE env own))
  if ← mt e then (do let y ← datOf (← me e); M.ret (some y)) else M.ret none)
theorem lcGo_nox {f : PyData → M (Option PyData)} : ∀ (xs : List PyData) (s s' : Twn) (c : Nat), lcGo (fun x => M.nox (f x)) xs s ≠ .exc c s'
  | [], _, _, _ => fun h => by cases h
  | x :: xs, s, s', c => fun h => by
    have h : M.bnd (M.nox (f x)) (fun y => M.bnd (lcGo (fun x => M.nox (f x)) xs) fun r => M.ret _) s = .exc c s' := h
    unfold M.bnd at h
    split at h
    · rename_i a s1 _
      dsimp only at h
      split at h
      · cases h
      · rename_i c' s2 e
        exact lcGo_nox xs _ _ _ e
      · cases h
    · rename_i c' s1 e
      unfold M.nox at e
      split at e <;> cases e
    · cases h
theorem Wp.noE {α : Type} {r : Res α} {Q : α → Twn → Prop} {E : Nat → Twn → Prop} (h : Wp r Q E) (n : ∀ c s, r ≠ .exc c s) : Wp r Q fun _ _ => False := by
  cases r with
  | ok a s => exact h
  | exc c s => exact (n c s rfl).elim
  | stuck => exact h
theorem Wp.nox {α : Type} {x : M α} {s : Twn} {Q : α → Twn → Prop} {E : Nat → Twn → Prop} (h : Wp (M.nox x s) Q E) : Wp (x s) Q fun _ _ => False := by
  unfold M.nox at h
  cases e : x s with
  | ok a s' => rw [e] at h; exact h
  | exc c s' => rw [e] at h; exact h.elim
  | stuck => rw [e] at h; exact h.elim
/-- a heap further on -/
theorem Ok.from {α : Type} {τ : Tn} {E : XK} {H : Hp} {r : Res α} {Q : α → Twn → Prop} (h : Wp r Q fun _ _ => False) : Ok τ E H r fun a s _ => Q a s := Wp.mono h (fun _ _ q _ _ _ => q) fun _ _ z => z.elim

/-! the readings for any set that is kept out -/
def tGx (a : Ar) (tg : Tg) : TG := fun v σ H Q => ∃ B, tG { a with B := B } tg v σ H Q
def tDx (a : Ar) (m : Env → M D) : TE := fun σ H Q => ∃ B, tD { a with B := B } true m σ H Q
def tTx (a : Ar) (m : Env → M Bool) : TT := fun σ H Q => ∃ B, tT { a with B := B } m σ H Q
/-- what is newly made: it may be written on -/
def tDF (a : Ar) (m : Env → M D) : TE := fun σ H Q => ∃ env s, a.Rp env σ H ∧ TownR a.τ H s ∧ Ok a.τ a.E H (m env s) fun d _ H' => ∀ p, H p = none → H' p ≠ none → Dv a.P a.w a.K a.τ (fun b => Av a.B env σ b ∨ b = p) false H' (.ref p) d → Q (.ref p) H'
theorem Dv.keep {P : Program} {w : World} {K : PySem.W.Frag} {τ : Tn} {S : Addr → Prop} {H : Hp} {p : Addr} {d : D} (h : Dv P w K τ (fun b => S b ∨ b = p) false H (.ref p) d) (n : ¬ S p) : Dv P w K τ S true H (.ref p) d := by
  have hs : ∀ a, S a → S a ∨ a = p := fun a z => .inl z
  have h := Dv.mono hs h
  cases d with
  | dat d =>
    rcases (show DrI K S H (.ref p) d from h) with h | ⟨a, xs, ds, e1, e2, e, q⟩
    · exact h
    · cases e1
      subst e2
      exact Dr.lst e n q
  | dK kvs =>
    obtain ⟨a, e, _, m, q⟩ := h
    cases e
    exact ⟨p, rfl, fun _ => n, m, q⟩
  | dT kvs =>
    obtain ⟨a, e, _, m, q⟩ := h
    cases e
    exact ⟨p, rfl, fun _ => n, m, q⟩
  | fn i => exact h
  | town => exact h
  | scr => exact h
theorem tDF_of {a : Ar} {md : Bool} {m : Env → M D} {σ : L2.St} {H : Hp} {Q : VK} (h : tD a md m σ H Q) : tDF a m σ H Q := by
  obtain ⟨env, s, R, t, h⟩ := h
  exact ⟨env, s, R, t, h.imp fun d s1 H1 e1 t1 q p hp _ hd => q _ (Dv.weak (Dv.keep hd fun z => R.sdom p z hp))⟩
section
variable {X : Cx} {τ : Tn} {B : Addr → Prop} {E : XK} {md : Bool} {pos : Pos} {nm : Nm}
theorem ownOf_map (own : List Nat) : (ownOf nm own).map (·.2) = own := by
  unfold ownOf
  rw [List.map_map]
  exact List.map_id'' (fun _ => rfl) _
theorem lc_imp {own : List Nat} {tg : Tg} {mi : Env → M (List PyData)} {mt : Env → M Bool} {me : Env → M D} (ho : (tgSl tg).all own.contains = true) (σ : L2.St) (H : Hp) (Q : VK) :
    tDF (arOf X τ B E) (fun env => do
      let xs ← mi env
      if ownFree env own then
        let r ← lcGo (turnOf own tg mt me env) xs
        if fits r then M.ret (lst r) else M.non
      else M.non) σ H Q →
    tLc (tI (arOf X τ B E) false mi) (tGx (arOf X τ B fun _ _ _ => False) tg) (tTx (arOf X τ B fun _ _ _ => False) mt) (tDx (arOf X τ B fun _ _ _ => False) me) own σ H Q := by
  have hsub : ∀ j, j ∈ tgSl tg → j ∈ own := fun j hj => by simpa using List.all_eq_true.mp ho j hj
  refine fun ⟨env, s, R, t, h⟩ => ?_
  refine ⟨env, s, R, t, h.bnd.imp fun ds s1 H1 e1 t1 h1 J hJ D hD => ?_⟩
  obtain ⟨hf, h1⟩ := h1.ifN
  have h2 := Wp.bnd h1
  have h3 : Wp (lcGo (turnOf own tg mt me env) ds s1) (fun r s' => fits r = true ∧ ∀ H', Xt τ H1 H' → TownR τ H' s' → ∀ p, H p = none → H' p ≠ none → Dv X.prog X.w X.K τ (fun b => Av B env σ b ∨ b = p) false H' (.ref p) (lst r) → Q (.ref p) H') fun _ _ => False :=
    (Wp.mono h2 (fun r s' q => ⟨(Wp.ifN q).1, (Wp.ifN q).2⟩) fun c s' q => q).noE fun c s' => lcGo_nox ds s1 s' c
  have R1 : Rep X.prog X.w X.K τ B env σ H1 := R.xt t e1
  have hdom : ∀ a, Av B env σ a → a ≠ D := fun a h e => R1.sdom a h (by rw [e]; exact hD)
  let S : Addr → Prop := fun a => Av B env σ a ∨ a = D
  let Pv : Nat → Hp → Prop := fun i H0 => ∃ s accV accD, TownR τ H0 s ∧ Xt τ H1 H0 ∧ H0 D = some (.lst accV) ∧ Drs X.K S H0 accV accD ∧
    Wp (lcGo (turnOf own tg mt me env) (ds.drop i) s) (fun r s' => fits (accD ++ r) = true ∧ ∀ H', Xt τ H1 H' → TownR τ H' s' → ∀ p, H p = none → H' p ≠ none → Dv X.prog X.w X.K τ (fun b => Av B env σ b ∨ b = p) false H' (.ref p) (lst (accD ++ r)) → Q (.ref p) H') fun _ _ => False
  refine ⟨fun i m H => m = ds.length - i ∧ i ≤ ds.length ∧ Pv i H, ⟨ds.length, by simp, Nat.zero_le _, s1, [], [], (Al.new hD).town t1, (Al.new hD).xt, upd_same, .nil, h3⟩, ?_⟩
  rintro i m H2 ⟨rfl, hil, s2, accV, accD, t2, e2, hD2, ha, hw⟩
  have hS : ∀ a, S a → Av B env σ a ∨ H1 a = none := fun a z => z.imp id fun z => by rw [z]; exact hD
  have hTS : ∀ a, τ.T a → S a := fun a z => .inl (R1.tS a z)
  obtain ⟨hgo, hst⟩ := hJ S i H2 hS hTS e2
  by_cases hlt : i < ds.length
  · refine .inr ?_
    have hdi : ds[i]? = some ds[i] := by simp [hlt]
    obtain ⟨g1, g2⟩ := hgo _ hdi
    refine ⟨g1, Pv (i + 1), fun H' p' => ⟨ds.length - (i + 1), by omega, rfl, hlt, p'⟩, fun x H3 hy => ?_⟩
    obtain ⟨al, dx⟩ := g2 x H3 hy
    have e3 : Xt τ H1 H3 := e2.trans al.xt
    have t3 := al.town t2
    have hD3 : H3 D = some (.lst accV) := al _ _ hD2
    have R3 := R1.guardX (H' := H3) t1 hD (by rw [hD3]; simp) e3
    obtain ⟨R3w, hOw⟩ := R3.wipe own
    rw [List.drop_eq_getElem_cons hlt] at hw
    have hw := Wp.nox (Wp.bnd hw)
    obtain ⟨env', hbt, hw⟩ := Wp.of (Wp.bnd hw)
    refine ⟨fun a => B a ∨ a = D, wipeE env own, env', ds[i], R3w, Dr.mono (fun a z => ?_) _ _ dx, hbt, fun σ4 R4 hO4 hout hlen => ⟨wipe_eq (by rw [hlen, wipe_length]) (fun j hj => by rw [hout j fun z => hj (hsub j z), wipe_out hj]), ?_⟩⟩
    · rcases z with (z | z) | z
      · exact .inl (.inl z)
      · exact .inr z
      · exact .inl (.inr (hOw a z))
    · have back : ∀ a, S a → Av (fun a => B a ∨ a = D) env' σ4 a := fun a z => by
        rcases z with (z | z) | z
        · exact .inl (.inl z)
        · obtain ⟨j, d, q1, q2⟩ := z
          have hj := ownFree_of hf q1
          exact .inr ⟨j, d, by rw [bind_out tg _ _ _ j hbt fun z => hj (hsub j z), wipeE_out hj]; exact q1, by rw [hout j fun z => hj (hsub j z), wipe_out hj]; exact q2⟩
        · exact .inl (.inr z)
      refine ⟨fun a => B a ∨ a = D, env', s2, R4, t3, (Ok.from (Wp.bnd hw)).imp fun b s5 H5 e5 t5 hw => ?_⟩
      have hD5 : H5 D = some (.lst accV) := e5.1 D _ (fun z => hdom D (R1.tS D z) rfl) (fun _ z => by cases z) hD3
      cases b with
      | false =>
        show Pv (i + 1) H5
        rw [if_neg Bool.false_ne_true] at hw
        have hw : Wp ((lcGo (turnOf own tg mt me env) (ds.drop (i + 1)) >>= fun r => M.ret r) s5) _ _ := hw
        refine ⟨s5, accV, accD, t5, e3.trans e5, hD5, Ke.drs e5 hTS (al.drs ha), ?_⟩
        exact Wp.bnd hw
      | true =>
        show tDx _ me σ4 H5 _
        rw [if_pos rfl] at hw
        refine ⟨fun a => B a ∨ a = D, env', s5, R4.xt t3 e5, t5, (Ok.from (Wp.bnd hw)).imp fun d s6 H6 e6 t6 hw v dv => ?_⟩
        have hD6 : H6 D = some (.lst accV) := e6.1 D _ (fun z => hdom D (R1.tS D z) rfl) (fun _ z => by cases z) hD5
        cases d with
        | dat d =>
          have hw : Wp ((lcGo (turnOf own tg mt me env) (ds.drop (i + 1)) >>= fun r => M.ret (d :: r)) s6) _ _ := hw
          have hw := Wp.bnd hw
          have dv : Dr X.K (Av (fun a => B a ∨ a = D) env' σ4) H6 v d := dv
          have ha6 := Ke.drs e6 hTS (Ke.drs e5 hTS (al.drs ha))
          have hz : accV.length < sizeLine := by
            have key : ∃ r : List PyData, fits (accD ++ d :: r) = true := by
              cases e : lcGo (turnOf own tg mt me env) (ds.drop (i + 1)) s6 with
              | ok r s' => rw [e] at hw; exact ⟨r, (show fits (accD ++ d :: r) = true ∧ _ from hw).1⟩
              | exc c s' => rw [e] at hw; exact hw.elim
              | stuck => rw [e] at hw; exact hw.elim
            obtain ⟨r, hr⟩ := key
            have := fits_of hr
            rw [ha6.length]
            simp at this
            omega
          have ku := upd_ke (xs := accV ++ [v]) hD6
          have kS : ∀ a, a = D → S a := fun a z => .inr z
          refine ⟨accV, hD6, hz, s6, accV ++ [v], accD ++ [d], t6.upd hD6 (fun z q => hdom D (.inl (R1.tB D (.inr ⟨z, q⟩))) rfl), ?_, upd_same, (ku.drs kS ha6).append (.cons (ku.dr kS (Dr.mono back _ _ dv)) .nil), ?_⟩
          · exact Ke.ext ((e3.trans e5).trans e6) ku fun c z => .inr (by rw [z]; exact hD)
          · refine Wp.mono hw (fun r s' q => ?_) fun _ _ z => z
            have q : fits (accD ++ d :: r) = true ∧ _ := q
            have e : accD ++ [d] ++ r = accD ++ d :: r := by simp
            rw [e]
            exact q
        | dK _ => exact (show False from hw).elim
        | dT _ => exact (show False from hw).elim
        | fn _ => exact (show False from hw).elim
        | town => exact (show False from hw).elim
        | scr => exact (show False from hw).elim
  · have e : i = ds.length := by omega
    subst e
    refine .inl ⟨hst (Nat.le_refl _), ?_⟩
    rw [List.drop_length] at hw
    have hw : fits (accD ++ []) = true ∧ _ := hw
    refine hw.2 H2 e2 t2 D ?_ (by rw [hD2]; simp) ?_
    · cases q : H D with
      | none => rfl
      | some o => exact absurd hD (e1.2.1 D (by rw [q]; simp))
    · rw [List.append_nil]
      exact Or.inr ⟨D, accV, accD, rfl, rfl, hD2, ha⟩
theorem sn_lc {elt tgx iter : Expr} {ifs : List Expr} {scope : Scope} {own : List Nat} {tg : Tg} {mi : Env → M (List PyData)} {mt : Env → M Bool} {me : Env → M D} (hc : X.calm = true) (hN : X.N.Nodup) (hNN : X.N = nm.N)
    (hi : PI X tgx iter (tI (arOf X τ B E) false mi)) (hb : blkC nm.N X.env.scope scope (ownOf nm own) = true) (ho : (tgSl tg).all own.contains = true)
    (hg : ∀ (s : Shared) (H : Hp) (C : Addr) (cl : List (Str × Addr)) (fp : List Addr), PG (X.blk s H scope (compEnvC scope cl C X.env) fp) tgx (tGx (arOf X τ B fun _ _ _ => False) tg))
    (ht : ∀ (s : Shared) (H : Hp) (C : Addr) (cl : List (Str × Addr)) (fp : List Addr), PTs (X.blk s H scope (compEnvC scope cl C X.env) fp) ifs (tTx (arOf X τ B fun _ _ _ => False) mt))
    (he : ∀ (s : Shared) (H : Hp) (C : Addr) (cl : List (Str × Addr)) (fp : List Addr), PE (X.blk s H scope (compEnvC scope cl C X.env) fp) elt (tDx (arOf X τ B fun _ _ _ => False) me))
    (hs : ∀ x, foldedSetIterable iter X.env x = pure x) :
    PE X (.ListComp elt [⟨tgx, iter, ifs, 0⟩] scope pos) (tD (arOf X τ B E) md fun env => do
      let xs ← mi env
      if ownFree env own then
        let r ← lcGo (turnOf own tg mt me env) xs
        if fits r then M.ret (lst r) else M.non
      else M.non) := by
  have ok : BlkOk X.N X.env.scope scope (ownOf nm own) := blkOk_by (by rw [hNN]; exact hb)
  refine (pe_lc hc hN hi ok hg ht he hs).imp fun σ H Q h => ?_
  rw [ownOf_map]
  exact lc_imp ho σ H Q (tDF_of h)
theorem sn_lcF {elt tgx iter : Expr} {ifs : List Expr} {scope : Scope} {own : List Nat} {tg : Tg} {mi : Env → M (List PyData)} {mt : Env → M Bool} {me : Env → M D} (hc : X.calm = true) (hN : X.N.Nodup) (hNN : X.N = nm.N)
    (hi : PI X tgx iter (tI (arOf X τ B E) false mi)) (hb : blkC nm.N X.env.scope scope (ownOf nm own) = true) (ho : (tgSl tg).all own.contains = true)
    (hg : ∀ (s : Shared) (H : Hp) (C : Addr) (cl : List (Str × Addr)) (fp : List Addr), PG (X.blk s H scope (compEnvC scope cl C X.env) fp) tgx (tGx (arOf X τ B fun _ _ _ => False) tg))
    (ht : ∀ (s : Shared) (H : Hp) (C : Addr) (cl : List (Str × Addr)) (fp : List Addr), PTs (X.blk s H scope (compEnvC scope cl C X.env) fp) ifs (tTx (arOf X τ B fun _ _ _ => False) mt))
    (he : ∀ (s : Shared) (H : Hp) (C : Addr) (cl : List (Str × Addr)) (fp : List Addr), PE (X.blk s H scope (compEnvC scope cl C X.env) fp) elt (tDx (arOf X τ B fun _ _ _ => False) me))
    (hs : ∀ x, foldedSetIterable iter X.env x = pure x) :
    PE X (.ListComp elt [⟨tgx, iter, ifs, 0⟩] scope pos) (tDF (arOf X τ B E) fun env => do
      let xs ← mi env
      if ownFree env own then
        let r ← lcGo (turnOf own tg mt me env) xs
        if fits r then M.ret (lst r) else M.non
      else M.non) := by
  have ok : BlkOk X.N X.env.scope scope (ownOf nm own) := blkOk_by (by rw [hNN]; exact hb)
  refine (pe_lc hc hN hi ok hg ht he hs).imp fun σ H Q h => ?_
  rw [ownOf_map]
  exact lc_imp ho σ H Q h
end
end BK
set_option Elab.async false
set_option linter.all false
set_option maxRecDepth 100000
set_option maxHeartbeats 2000000
/-! What loops walk; calls. -/
namespace BK
open PySem L2
section
variable {X : Cx} {τ : Tn} {B : Addr → Prop} {E : XK} {md : Bool} {pos : Pos} {tg : Expr}

/-! ### iterators -/
def iSeq (K : PySem.W.Frag) (tl : TE) : TI := fun σ H R => tl σ H fun x H1 => ∃ a, x = .ref a ∧ (((∃ xs, SqL K H1 a xs) ∧ R (Itl K a) H1) ∨ ((∃ xs, SqT K H1 a xs) ∧ R (Itt K a) H1))
theorem it_at {pins : List (Addr × Obj)} {σ : St} {H : Hp} {z : Shared} {R : It → Hp → Prop} {J : It} {o : Obj} {tn : Nat → Heap → Prop} (I : Inv X pins σ H z) (T : Turn X.prog X.w X.K tg J [z.heap.objs.size] z.heap.objs.size tn) (h0 : tn 0 (z.heap.push o)) (q : R J H) :
    PIE X pins σ tg R (.ref z.heap.objs.size) { z with heap := z.heap.push o } :=
  ⟨z.heap.objs.size, [z.heap.objs.size], tn, J, H, rfl, I.kept (t' := z.toks) fun _ _ k => Heap.get?_push_of_some _ k, T, h0, fun c hc => by
    obtain rfl : c = z.heap.objs.size := by simpa using hc
    exact I.fpOk (Nat.le_refl _) (I.hok.fresh (Nat.le_refl _)), q⟩
theorem pi_seq {l : Expr} {tl : TE} (hl : PE X l tl) : PI X tg l (iSeq X.K tl) := ⟨fun pins z σ H R I h => thn (hl.run pins z σ H _ I h) fun u z1 hz => by
  obtain ⟨x, H1, I1, rx, a, rfl, q⟩ := hz
  cases rx
  rcases q with ⟨⟨xs, hx⟩, q⟩ | ⟨⟨xs, hx⟩, q⟩
  · obtain ⟨is_, _, pl, _⟩ := I1.list hx
    exact wpAny_pyIter_list pl.isList (it_at I1 (turn_list a _) ⟨_, Heap.get?_push_size _ rfl, rfl, rfl⟩ q)
  · obtain ⟨is_, _, pt, _⟩ := I1.tuple hx
    exact wpAny_pyIter_tuple (show z1.heap.IsTuple a is_.toArray from pt) (it_at I1 (turn_tuple a _) ⟨_, Heap.get?_push_size _ rfl, rfl, rfl⟩ q)⟩
section
variable {K : PySem.W.Frag} {S R : Addr → Prop} {H : Hp} {a : Addr} {xs : List V} {ds : List PyData}
theorem it_list (h : H a = some (.lst xs)) (n : ¬ R a) (hd : Drs K S H xs ds) : ItOk K S R H (Itl K a) ds := by
  intro S' i H' hS hR ke
  have h' : SqL K H' a xs := SqL.of (ke.1 a _ n (fun _ z => by cases z) h)
  refine ⟨fun d hi => ?_, fun hi => ⟨xs, h', by rw [hd.length]; exact hi⟩⟩
  obtain ⟨v, e, r⟩ := hd.get hi
  refine ⟨⟨xs, v, h', e⟩, fun x H'' ⟨e1, e2⟩ => ?_⟩
  subst e1
  refine ⟨Al.refl _, ?_⟩
  have := e2 xs h'
  rw [e] at this
  cases this
  exact ke.dr hR (Dr.shift hS _ _ r)
theorem it_tup (h : SqT K H a xs) (hd : Drs K S H xs ds) : ItOk K S R H (Itt K a) ds := by
  intro S' i H' hS hR ke
  have h' : SqT K H' a xs := ke.sqt h
  refine ⟨fun d hi => ?_, fun hi => ⟨xs, h', by rw [hd.length]; exact hi⟩⟩
  obtain ⟨v, e, r⟩ := hd.get hi
  refine ⟨⟨xs, v, h', e⟩, fun x H'' ⟨e1, e2⟩ => ?_⟩
  subst e1
  refine ⟨Al.refl _, ?_⟩
  have := e2 xs h'
  rw [e] at this
  cases this
  exact ke.dr hR (Dr.shift hS _ _ r)
theorem it_rng {n : Int} : ItOk K S R H (Itr 0 n.toNat) (rngD n) := by
  intro S' i H' hS hR ke
  have hl : (rngD n).length = n.toNat := by simp [rngD]
  refine ⟨fun d hi => ?_, fun hi => by rw [hl] at hi; exact hi⟩
  have hlt : i < n.toNat := by
    have := (List.getElem?_eq_some_iff.mp hi).1
    rwa [hl] at this
  refine ⟨hlt, fun x H'' ⟨e1, e2⟩ => ?_⟩
  subst e1 e2
  refine ⟨Al.refl _, ?_⟩
  have : d = .int (i : Int) := by
    simp only [rngD, List.getElem?_map, List.getElem?_range hlt, Option.map_some, Option.some.injEq] at hi
    exact hi.symm
  rw [this, Int.zero_add]
  exact .int _
theorem it_zip {b : Addr} {ys : List V} {es : List PyData} (h1 : SqT K H a xs) (h2 : SqT K H b ys) (d1 : Drs K S H xs ds) (d2 : Drs K S H ys es) : ItOk K S R H (RZ.ItzT K a b) (zipD ds es) := by
  intro S' i H' hS hR ke
  have k1 : SqT K H' a xs := ke.sqt h1
  have k2 : SqT K H' b ys := ke.sqt h2
  have zl : ∀ (ds es : List PyData) (i : Nat), (∀ d, (zipD ds es)[i]? = some d → ∃ x y, ds[i]? = some x ∧ es[i]? = some y ∧ d = .tuple [x, y]) ∧ ((zipD ds es).length ≤ i → ds.length ≤ i ∨ es.length ≤ i) := by
    intro ds
    induction ds with
    | nil => intro es i; exact ⟨fun d h => by simp [zipD] at h, fun _ => .inl (Nat.zero_le _)⟩
    | cons x ds ih =>
      intro es i
      cases es with
      | nil => exact ⟨fun d h => by simp [zipD] at h, fun _ => .inr (Nat.zero_le _)⟩
      | cons y es =>
        cases i with
        | zero => exact ⟨fun d h => ⟨x, y, rfl, rfl, by simp [zipD] at h; exact h.symm⟩, fun h => by simp [zipD] at h⟩
        | succ i =>
          obtain ⟨p, q⟩ := ih es i
          refine ⟨fun d h => ?_, fun h => ?_⟩
          · obtain ⟨u, v, e1, e2, e3⟩ := p d (by simpa [zipD] using h)
            exact ⟨u, v, by simpa using e1, by simpa using e2, e3⟩
          · have := q (by simpa [zipD] using h)
            simpa using this
  obtain ⟨z1, z2⟩ := zl ds es i
  refine ⟨fun d hi => ?_, fun hi => ⟨xs, ys, k1, k2, by rw [d1.length, d2.length]; exact z2 hi⟩⟩
  obtain ⟨x, y, e1, e2, rfl⟩ := z1 d hi
  obtain ⟨v, g1, r1⟩ := d1.get e1
  obtain ⟨u, g2, r2⟩ := d2.get e2
  refine ⟨⟨xs, ys, v, u, k1, k2, g1, g2⟩, fun w' H'' ⟨T, x', y', e3, nT, eH, q1, q2⟩ => ?_⟩
  subst e3 eH
  have w1 := q1 xs k1
  have w2 := q2 ys k2
  rw [g1] at w1
  rw [g2] at w2
  cases w1
  cases w2
  exact ⟨Al.new nT, Dr.newT nT (.cons (ke.dr hR (Dr.shift hS _ _ r1)) (.cons (ke.dr hR (Dr.shift hS _ _ r2)) .nil))⟩
end
theorem sn_seqI {e : Expr} {m : Env → M D} (h : PE X e (tD (arOf X τ B E) md m)) : PI X tg e (tI (arOf X τ B E) md fun env => do let x ← m env; M.of (seqOf x)) := by
  refine (pi_seq h).imp fun σ H R ⟨env, s, Rp, t, h⟩ => ?_
  refine ⟨env, s, Rp, t, h.bnd.imp fun x s1 H1 e1 t1 h1 v dv => ?_⟩
  obtain ⟨ds, ed, h2⟩ := h1.of
  have h2 := h2 H1 (Xt.refl H1) t1
  unfold seqOf at ed
  split at ed
  · cases ed
    cases md with
    | true =>
      cases (show Dr X.K (Av B env σ) H1 v (.list ds) from dv) with
      | lst e n hd =>
        refine ⟨_, rfl, .inl ⟨⟨_, SqL.of e⟩, h2 _ (it_list e ?_ hd)⟩⟩
        exact n
    | false =>
      obtain ⟨a, xs, rfl, e, hd⟩ := dv.i.lst
      refine ⟨_, rfl, .inl ⟨⟨_, SqL.of e⟩, h2 _ (it_list e ?_ hd)⟩⟩
      rintro (z | z)
      · rw [z, t1.1] at e; cases e
      · rw [z, t1.2.1] at e; cases e
  · cases ed
    obtain ⟨a, xs, rfl, e, hd⟩ := dv.i.tup
    exact ⟨_, rfl, .inr ⟨⟨_, e⟩, h2 _ (it_tup e hd)⟩⟩
  · cases ed
theorem star1 {e : Expr} {es : List Expr} (h : starred e = false) : starEach (e :: es) X.env = (false, eval e X.env) :: starEach es X.env := by
  cases e <;> first
    | rfl
    | cases h
theorem stars_any {p : Pos} : ∀ {es : List Expr}, (∀ e ∈ es, starred e = false) → (backTo p (starEach es X.env)).any (·.1) = false
  | [], _ => rfl
  | e :: es, h => by
    have ih := stars_any (p := p) (es := es) fun x hx => h x (List.mem_cons_of_mem _ hx)
    rw [star1 (h e List.mem_cons_self)]
    unfold backTo at ih ⊢
    rw [List.map_cons, List.any_cons, ih]
    rfl
/-- one argument alone -/
theorem sn_one {e : Expr} {m : Env → M D} (h : PE X e (tD (arOf X τ B E) md m)) (ns : starred e = false) : PA X [e] (fun σ H Q => ∃ env s, Rep X.prog X.w X.K τ B env σ H ∧ TownR τ H s ∧ Ok τ E H (m env s) fun d _ H' => ∀ v, Dv X.prog X.w X.K τ (Av B env σ) md H' v d → Q [v] H') := by
  refine (pa_cons h pa_nil (star1 ns)).imp fun σ H Q ⟨env, s, R, t, h⟩ => ?_
  exact ⟨env, s, R, t, h⟩
theorem sn_rng {e : Expr} {p : Pos} {m : Env → M D} (hg : Gl X "range") (hm : X.mg "range" = none) (h : PE X e (tD (arOf X τ B E) true m)) (ns : starred e = false) :
    PI X tg (.Call (.Name "range" p) [e] [] pos) (tI (arOf X τ B E) md fun env => do let n ← intOf (← m env); if n ≤ 1000 ∧ -1000 ≤ n then M.ret (rngD n) else M.non) := by
  refine (pi_range1 hg hm (sn_one h ns) (star1 ns)).imp fun σ H R ⟨env, s, Rp, t, h⟩ => ?_
  refine ⟨env, s, Rp, t, h.bnd.imp fun x s1 H1 e1 t1 h1 v dv => ?_⟩
  obtain ⟨n, rfl, h2⟩ := h1.bnd.int
  obtain rfl := dv.i.int
  obtain ⟨hc, h3⟩ := (h2 H1 (Xt.refl H1) t1).ifN
  exact ⟨n, rfl, by omega, by omega, h3.ret H1 (Xt.refl H1) t1 _ it_rng⟩
theorem sn_zip {e e2 : Expr} {elts : List Expr} {kk : Nat} {tp p : Pos} {m1 m2 : Env → M D} (hg : Gl X "zip") (hm : X.mg "zip" = none) (h1 : PE X e (tD (arOf X τ B E) true m1)) (h2 : PE X e2 (tD (arOf X τ B E) true m2)) (ns : starred e = false) (ns2 : starred e2 = false) :
    PI X (.Tuple elts kk tp) (.Call (.Name "zip" p) [e, e2] [] pos) (tI (arOf X τ B E) md fun env => do
      let x ← m1 env
      let y ← m2 env
      zipM x y) := by
  refine (RZ.pi_zipA hg hm (sn_cons h1 (sn_cons h2 sn_nil (star1 ns2)) (star1 ns)) (star1 ns) (stars_any fun x hx => by rw [List.mem_singleton.mp hx]; exact ns2)).imp fun σ H R ⟨env, s, Rp, t, h⟩ => ?_
  have e1 : ∀ (a : M D) (b : M D) (f : D → D → M (List PyData)) (s : Twn), (M.bnd a fun x => M.bnd b fun y => f x y) s = (M.bnd (M.bnd a fun x => M.bnd (M.bnd b fun y => M.bnd (M.ret []) fun r => M.ret (y :: r)) fun r => M.ret (x :: r)) fun l => match l with | [x, y] => f x y | _ => M.non) s := by
    intro a b f s
    unfold M.bnd
    cases a s with
    | ok x s1 =>
      dsimp only
      cases b s1 <;> rfl
    | exc => rfl
    | stuck => rfl
  have h := (congrArg (fun r => Ok τ E H r _) (e1 (m1 env) (m2 env) _ s)).mp h
  refine ⟨env, s, Rp, t, (Ok.bnd h).imp fun ds s1 H1 x1 t1 h3 vs dvs => ?_⟩
  cases dvs with
  | nil => exact h3.elim
  | cons a1 r1 =>
    cases r1 with
    | nil => exact h3.elim
    | cons a2 r2 =>
      cases r2 with
      | cons => exact h3.elim
      | nil =>
        have h3 : Ok τ E H1 (zipM _ _ s1) _ := h3
        unfold zipM at h3
        split at h3
        · obtain ⟨a, xs, rfl, q1, d1⟩ := a1.i.tup
          obtain ⟨b, ys, rfl, q2, d2⟩ := a2.i.tup
          exact ⟨a, b, xs, ys, rfl, .inr ⟨q1, q2, h3.ret H1 (Xt.refl H1) t1 _ (it_zip q1 q2 d1 d2)⟩⟩
        · exact h3.elim

/-! ### built-in calls -/
theorem sn_p1 {e : Expr} {x : Str} {p : Pos} {id : String} {g : D → Option D} {m : Env → M D} (hc : CallR X (.builtin id) (rQ X.prog X.w X.K τ g)) (hg : Gl X x) (hm : X.mg x = none) (hv : bootBuiltins x = some (.builtin id)) (hn : x ≠ "__name__") (hdb : (x == ("__debug__" : Str)) = false)
    (h : PE X e (tD (arOf X τ B E) false m)) (ns : starred e = false) : PE X (.Call (.Name x p) [e] [] pos) (tD (arOf X τ B E) md fun env => do let x ← m env; M.of (g x)) := by
  refine (pe_callB hc hg hm hv (sn_one h ns) hn hdb (star1 ns) rfl).imp fun σ H Q ⟨env, s, R, t, h⟩ => ?_
  refine ⟨env, s, R, t, h.bnd.imp fun x s1 H1 e1 t1 h1 v dv => ?_⟩
  obtain ⟨d, ed, h2⟩ := h1.of
  exact ⟨v, rfl, _, x, d, (R.xt t e1).sdom, dv, ed, fun w' H' al dw => h2 H' al.xt (al.town t1) w' dw.weak⟩
theorem sn_p1T {e : Expr} {x : Str} {p : Pos} {id : String} {g : D → Option D} {m : Env → M D} (hc : CallR X (.type id) (rQ X.prog X.w X.K τ g)) (hg : Gl X x) (hm : X.mg x = none) (hv : bootBuiltins x = some (.type id)) (hn : x ≠ "__name__") (hdb : (x == ("__debug__" : Str)) = false)
    (h : PE X e (tD (arOf X τ B E) false m)) (ns : starred e = false) : PE X (.Call (.Name x p) [e] [] pos) (tD (arOf X τ B E) md fun env => do let x ← m env; M.of (g x)) := by
  refine (pe_callTy hc hg hm hv (sn_one h ns) hn hdb (star1 ns) rfl).imp fun σ H Q ⟨env, s, R, t, h⟩ => ?_
  refine ⟨env, s, R, t, h.bnd.imp fun x s1 H1 e1 t1 h1 v dv => ?_⟩
  obtain ⟨d, ed, h2⟩ := h1.of
  exact ⟨v, rfl, _, x, d, (R.xt t e1).sdom, dv, ed, fun w' H' al dw => h2 H' al.xt (al.town t1) w' dw.weak⟩
theorem boot_isinst : bootBuiltins "isinstance" = some (.builtin "isinstance") := by decide +kernel
theorem boot_ty (t : Ty) : bootBuiltins t.st = some (.type t.nm) := by cases t <;> decide +kernel
theorem sn_isi {e : Expr} {p q : Pos} {t : Ty} {m : Env → M D} (hg : Gl X "isinstance") (hm : X.mg "isinstance" = none) (hg2 : Gl X t.st) (hm2 : X.mg t.st = none) (h : PE X e (tD (arOf X τ B E) false m)) (ns : starred e = false) :
    PE X (.Call (.Name "isinstance" p) [e, .Name t.st q] [] pos) (tD (arOf X τ B E) md fun env => do let x ← datOf (← m env); M.ret (bl (isTy t x))) := by
  have hty : PE X (.Name t.st q) (tC (.ty t.nm)) := pe_bltn hg2 hm2 (boot_ty t) rfl (by cases t <;> decide) (by cases t <;> decide)
  refine (pe_callB (cq_is (τ := τ) t) hg hm boot_isinst (pa_cons h (pa_cons hty pa_nil rfl) (star1 ns)) (by decide) (by decide) (star1 ns) rfl).imp fun σ H Q ⟨env, s, R, tw, h⟩ => ?_
  refine ⟨env, s, R, tw, h.bnd.imp fun x s1 H1 e1 t1 h1 v dv => ?_⟩
  obtain ⟨d, rfl, h2⟩ := h1.bnd.dat
  exact ⟨_, v, d, rfl, dv, (h2 H1 (Xt.refl H1) t1).ret H1 (Xt.refl H1) t1 _ (Dv.weak (d := .dat _) (.bl _))⟩
theorem cq_sorted (g : Gd X) : CallR X (.builtin "sorted") (rQ X.prog X.w X.K τ opSorted) := by
  intro pins s σ H vs us Q I r ⟨x, e, S, dx, rr, hS, hx, hg, q⟩
  subst e
  unfold opSorted at hg
  split at hg <;> try (cases hg; done)
  obtain ⟨hs, hg⟩ := Option.ite_none_right_eq_some.mp hg
  cases hg
  obtain ⟨p, xs, rfl, hp, hd⟩ := hx.i.lst
  rw [Vals.ref1 r]
  obtain ⟨its, rv, pl, hz⟩ := I.list (SqL.of hp)
  exact sort_list g I hS pl.isList rv hd hs fun v H' al dv => q v H' al dv
theorem rgV_data {K : PySem.W.Frag} {S : Addr → Prop} {H : Hp} {n : Int} : Drs K S H (rgV 0 n) (rngD n) := by
  unfold rgV rngD
  rw [Int.sub_zero]
  generalize List.range n.toNat = l
  induction l with
  | nil => exact .nil
  | cons i l ih =>
    refine .cons ?_ ih
    show Dr K S H (V.int (0 + (i : Int))) (.int (i : Int))
    rw [Int.zero_add]
    exact .int _
theorem sn_lrng {e : Expr} {p p2 q : Pos} {m : Env → M D} (g : Gd X) (hg : Gl X "list") (hm : X.mg "list" = none) (hg2 : Gl X "range") (hm2 : X.mg "range" = none) (h : PE X e (tD (arOf X τ B E) false m)) (ns : starred e = false) :
    PE X (.Call (.Name "list" p) [.Call (.Name "range" p2) [e] [] q] [] pos) (tD (arOf X τ B E) md fun env => do let n ← intOf (← m env); if 0 ≤ n ∧ n ≤ 1000 then M.ret (lst (rngD n)) else M.non) := by
  refine (pe_listRg g.calm hg hm (prg_1 hg2 hm2 h (star1 ns)) rfl).imp fun σ H Q ⟨env, s, R, t, h⟩ => ?_
  refine ⟨env, s, R, t, h.bnd.imp fun x s1 H1 e1 t1 h1 v dv => ?_⟩
  obtain ⟨n, rfl, h2⟩ := h1.bnd.int
  obtain rfl := dv.i.int
  obtain ⟨hc, h3⟩ := (h2 H1 (Xt.refl H1) t1).ifN
  exact ⟨n, rfl, RgOk.of_le (Int.le_refl _) (by omega) (by omega) hc.1, fun l nl => h3.ret _ (Al.new nl).xt ((Al.new nl).town t1) _ (Dv.weak (d := .dat _) (Dr.newL (R.xt t e1).sdom nl rgV_data))⟩
theorem sn_trng {e : Expr} {p p2 q : Pos} {m : Env → M D} (g : Gd X) (hg : Gl X "tuple") (hm : X.mg "tuple" = none) (hg2 : Gl X "range") (hm2 : X.mg "range" = none) (h : PE X e (tD (arOf X τ B E) false m)) (ns : starred e = false) :
    PE X (.Call (.Name "tuple" p) [.Call (.Name "range" p2) [e] [] q] [] pos) (tD (arOf X τ B E) md fun env => do let n ← intOf (← m env); if 0 ≤ n ∧ n ≤ 1000 then M.ret (tup (rngD n)) else M.non) := by
  refine (pe_tupRg g.calm hg hm (prg_1 hg2 hm2 h (star1 ns)) rfl).imp fun σ H Q ⟨env, s, R, t, h⟩ => ?_
  refine ⟨env, s, R, t, h.bnd.imp fun x s1 H1 e1 t1 h1 v dv => ?_⟩
  obtain ⟨n, rfl, h2⟩ := h1.bnd.int
  obtain rfl := dv.i.int
  obtain ⟨hc, h3⟩ := (h2 H1 (Xt.refl H1) t1).ifN
  exact ⟨n, rfl, RgOk.of_le (Int.le_refl _) (by omega) (by omega) hc.1, fun l nl => h3.ret _ (Al.new nl).xt ((Al.new nl).town t1) _ (Dv.weak (d := .dat _) (Dr.newT nl rgV_data))⟩

/-! ### calls of the defs -/
theorem Dvs.to {P : Program} {w : World} {K : PySem.W.Frag} {τ : Tn} {B B' S : Addr → Prop} {E E' : XK} {H : Hp} {vs : List V} {ds : List D} (h : Dvs ⟨P, w, K, τ, B, E⟩ S H vs ds) : Dvs ⟨P, w, K, τ, B', E'⟩ S H vs ds := by
  induction h with
  | nil => exact .nil
  | cons h _ ih => exact .cons h ih
/-- what a def gives: Gs by the script -/
def spD (P : Program) (w : World) (K : PySem.W.Frag) (τ0 : Tn) (F : List Int → Fun) : Sp := fun vs H Q E => ∃ (τ : Tn) (s : Twn) (ds : List D) (S : Addr → Prop), τ.fa = τ0.fa ∧ τ.cl = τ0.cl ∧ τ.tabs = τ0.tabs ∧ τ.K = K ∧ TownR τ H s ∧ (∀ a, τ.U a → S a) ∧ (∀ a, S a → H a ≠ none) ∧
  Dvs ⟨P, w, K, τ, S, E⟩ S H vs ds ∧ Ok τ E H (F τ.scr ds s) fun d _ H' => ∀ v, Dv P w K τ S true H' v d → Q v H'
structure FnAt (CX : CXT) (X : Cx) (τ : Tn) (F : List Int → Fun) (x : Str) (f : Addr) : Prop where
  ok : ∃ fd ps k, FnOk X.prog X.w X.K X.mg X.base CX k f fd ps (spD X.prog X.w X.K τ F) ∧ Room k X.A ∧ Binds X.K fd ps []
  mg : X.mg x = some (.ref f)
  kp : PySem.W.keepIn X.K (.ref f) = true
theorem sn_call {CX : CXT} {F : List Int → Fun} {x : Str} {f : Addr} {p : Pos} {e : Expr} {es : List Expr} {ms : Env → M (List D)} (FA : FnAt CX X τ F x f) (hK : τ.K = X.K) (hx : Passes CX X E) (hg : Gl X x) (hdb : (x == ("__debug__" : Str)) = false)
    (h : PA X (e :: es) (tA (arOf X τ B E) ms)) (ns : ∀ y ∈ e :: es, starred y = false) : PE X (.Call (.Name x p) (e :: es) [] pos) (tD (arOf X τ B E) md fun env => do let ds ← ms env; F τ.scr ds) := by
  obtain ⟨fd, ps, k, F1, F2, F3⟩ := FA.ok
  refine (pe_call F1 F2 hg FA.mg FA.kp F3 .nil hx h hdb (star1 (ns e List.mem_cons_self)) (stars_any fun y hy => ns y (List.mem_cons_of_mem _ hy))).imp fun σ H Q ⟨env, s, R, t, h⟩ => ?_
  refine ⟨env, s, R, t, h.bnd.imp fun ds s1 H1 e1 t1 h1 vs dvs => ?_⟩
  show spD X.prog X.w X.K τ F (vs ++ []) H1 Q E
  rw [List.append_nil]
  exact ⟨τ, s1, ds, Av B env σ, rfl, rfl, rfl, hK, t1, fun a h => .inl (R.tB a h), (R.xt t e1).sdom, dvs.to, h1.imp fun d s2 H2 e2 t2 q v dv => q v dv.weak⟩
theorem sn_call0 {CX : CXT} {F : List Int → Fun} {x : Str} {f : Addr} {p : Pos} (FA : FnAt CX X τ F x f) (hK : τ.K = X.K) (hx : Passes CX X E) (hg : Gl X x) (hdb : (x == ("__debug__" : Str)) = false) :
    PE X (.Call (.Name x p) [] [] pos) (tD (arOf X τ B E) md fun env => do let ds ← M.ret []; F τ.scr ds) := by
  obtain ⟨fd, ps, k, F1, F2, F3⟩ := FA.ok
  refine (pe_call0 F1 F2 hg FA.mg FA.kp F3 .nil hx hdb).imp fun σ H Q ⟨env, s, R, t, h⟩ => ?_
  have h : Ok τ E H (F τ.scr [] s) _ := h
  exact ⟨τ, s, [], Av B env σ, rfl, rfl, rfl, hK, t, fun a h => .inl (R.tB a h), R.sdom, .nil, h.imp fun d s2 H2 e2 t2 q v dv => q v dv.weak⟩
end
end BK
set_option Elab.async false
set_option linter.all false
set_option maxRecDepth 100000
set_option maxHeartbeats 2000000
/-! Statements. -/
namespace BK
open PySem L2
/-- what a piece of a frame may write -/
def Ch (τ : Tn) (env : Env) (σ : St) (a : Addr) : Prop := τ.T a ∨ Own env σ a
structure Pst (a : Ar) (env : Env) (σ : St) (H : Hp) (env' : Env) (σ' : St) (H' : Hp) : Prop where
  rp : a.Rp env' σ' H'
  ke : Ke (Ch a.τ env σ) H H'
  own : ∀ b, Own env' σ' b → Own env σ b ∨ H b = none
def SOk (a : Ar) (env : Env) (σ : St) (H : Hp) (D : Ends) (r : Res Fl) : Prop :=
  Wp r (fun fl s' => match fl with
    | .nx env' => ∀ σ' H', Pst a env σ H env' σ' H' → TownR a.τ H' s' → D.nx σ' H'
    | .rt d => ∀ v H', Ke (Ch a.τ env σ) H H' → TownR a.τ H' s' → Dv a.P a.w a.K a.τ a.B true H' v d → D.rt v H')
  fun c s' => ∀ H', Ke (Ch a.τ env σ) H H' → TownR a.τ H' s' → a.E (a.τ.cl c) none H'
def tS (a : Ar) (m : Env → M Fl) : TS := fun D σ H => ∃ env s, a.Rp env σ H ∧ TownR a.τ H s ∧ SOk a env σ H D (m env s)
section
variable {a : Ar} {env env1 env2 : Env} {σ σ1 σ2 : St} {H H1 H2 : Hp} {D : Ends} {s : Twn}
theorem none_of {S : Addr → Prop} {H H' : Hp} (k : Ke S H H') {b : Addr} (h : H' b = none) : H b = none := by
  cases q : H b with
  | none => rfl
  | some o => exact absurd h (k.2.1 b (by rw [q]; simp))
theorem Pst.ch (p : Pst a env σ H env1 σ1 H1) : ∀ c, Ch a.τ env1 σ1 c → Ch a.τ env σ c ∨ H c = none := fun c h => by
  rcases h with h | h
  · exact .inl (.inl h)
  · exact (p.own c h).imp .inr id
theorem Pst.trans (p : Pst a env σ H env1 σ1 H1) (q : Pst a env1 σ1 H1 env2 σ2 H2) : Pst a env σ H env2 σ2 H2 :=
  ⟨q.rp, p.ke.ext q.ke p.ch, fun b h => (q.own b h).elim (p.own b) fun z => .inr (none_of p.ke z)⟩
theorem Pst.refl (R : a.Rp env σ H) : Pst a env σ H env σ H := ⟨R, (Al.refl H).ke, fun _ h => .inl h⟩
theorem Pst.xt {s : Twn} (R : a.Rp env σ H) (t : TownR a.τ H s) (x : Xt a.τ H H1) : Pst a env σ H env σ H1 := ⟨R.xt t x, x.mono fun _ h => .inl h, fun _ h => .inl h⟩
/-- from a later place -/
theorem SOk.step {r : Res Fl} (p : Pst a env σ H env1 σ1 H1) (h : SOk a env σ H D r) : SOk a env1 σ1 H1 D r := by
  refine Wp.mono h (fun fl s' q => ?_) fun c s' q H' k t => q H' (p.ke.ext k p.ch) t
  cases fl with
  | nx env' => exact fun σ' H' q' t => q σ' H' (p.trans q') t
  | rt d => exact fun v H' k t dv => q v H' (p.ke.ext k p.ch) t dv
/-- an expression ahead -/
theorem SOk.ok {α : Type} {x : M α} {f : α → M Fl} (R : a.Rp env σ H) (t : TownR a.τ H s) (h : SOk a env σ H D ((x >>= f) s)) : Ok a.τ a.E H (x s) fun y s1 H1 => SOk a env σ H1 D (f y s1) := by
  refine Wp.mono (Wp.bnd h) (fun y s1 q H1 x1 t1 => SOk.step (Pst.xt R t x1) q) fun c s1 q H1 x1 t1 => q H1 (x1.mono fun _ z => .inl z) t1
/-- one after the other -/
theorem SOk.seq {m : M Fl} {f : Env → M Fl} (h : SOk a env σ H D ((do match ← m with
    | .nx env' => f env'
    | .rt d => M.ret (.rt d)) s)) : SOk a env σ H { D with nx := fun σ1 H1 => ∃ env1 s1, Pst a env σ H env1 σ1 H1 ∧ TownR a.τ H1 s1 ∧ SOk a env1 σ1 H1 D (f env1 s1) } (m s) := by
  refine Wp.mono (Wp.bnd h) (fun fl s1 q => ?_) fun c s1 q => q
  cases fl with
  | nx env1 => exact fun σ1 H1 p t => ⟨env1, s1, p, t, SOk.step p q⟩
  | rt d => exact q
end
section
variable {X : Cx} {τ : Tn} {B : Addr → Prop} {E : XK} {pos : Pos}
theorem _root_.L2.PS.imp {st : Stmt} {t t' : TS} (h : PS X st t) (f : ∀ D σ H, t' D σ H → t D σ H) : PS X st t' := ⟨fun pins s σ H D I z => h.run pins s σ H D I (f _ _ _ z)⟩
theorem _root_.L2.PSs.imp {st : List Stmt} {t t' : TS} (h : PSs X st t) (f : ∀ D σ H, t' D σ H → t D σ H) : PSs X st t' := ⟨fun pins s σ H D I z => h.run pins s σ H D I (f _ _ _ z)⟩
theorem ss_nil : PSs X [] (tS (arOf X τ B E) fun env => M.ret (.nx env)) := pss_nil.imp fun D σ H ⟨env, s, R, t, h⟩ => h σ H (Pst.refl R) t
theorem ss_cons {st : Stmt} {rest : List Stmt} {m : Env → M Fl} {f : Env → M Fl} (h1 : PS X st (tS (arOf X τ B E) m)) (h2 : PSs X rest (tS (arOf X τ B E) f)) : PSs X (st :: rest) (tS (arOf X τ B E) fun env => do match ← m env with
    | .nx env' => f env'
    | .rt d => M.ret (.rt d)) := by
  refine (pss_cons h1 h2).imp fun D σ H ⟨env, s, R, t, h⟩ => ⟨env, s, R, t, Wp.mono h.seq (fun fl s1 q => ?_) fun _ _ q => q⟩
  cases fl with
  | nx env1 =>
    intro σ1 H1 p t1
    obtain ⟨env1, s1, p, t1, q⟩ := q σ1 H1 p t1
    exact ⟨env1, s1, p.rp, t1, q⟩
  | rt d => exact q
/-- what comes to nothing -/
theorem ss_never {st : Stmt} : PS X st (tS (arOf X τ B E) fun _ => M.non) := ps_never.imp fun D σ H ⟨env, s, R, t, h⟩ => h.elim
theorem ss_pass : PS X (.Pass pos) (tS (arOf X τ B E) fun env => M.ret (.nx env)) := ps_pass.imp fun D σ H ⟨env, s, R, t, h⟩ => h σ H (Pst.refl R) t
theorem ss_exp {e : Expr} {m : Env → M D} (h : PE X e (tD (arOf X τ B E) true m)) (hs : swapsWith e none pos.line X.env = pure false) : PS X (.Expr e pos) (tS (arOf X τ B E) fun env => do let _ ← m env; M.ret (.nx env)) := by
  refine (ps_expr h hs).imp fun D σ H ⟨env, s, R, t, h⟩ => ?_
  exact ⟨env, s, R, t, (SOk.ok R t h).imp fun d s1 H1 e1 t1 q v dv => q σ H1 (Pst.refl (R.xt t e1)) t1⟩
theorem ss_ret {e : Expr} {m : Env → M D} (h : PE X e (tD (arOf X τ B E) true m)) : PS X (.Return (some e) pos) (tS (arOf X τ B E) fun env => do let d ← m env; M.ret (.rt d)) := by
  refine (ps_ret h).imp fun D σ H ⟨env, s, R, t, h⟩ => ?_
  exact ⟨env, s, R, t, (SOk.ok R t h).imp fun d s1 H1 e1 t1 q v dv => q v H1 (Al.refl H1).ke t1 (Dv.mono (fun b z => .inl z) dv)⟩
theorem ss_if {c : Expr} {p q : List Stmt} {mc : Env → M Bool} {m1 m2 : Env → M Fl} (hc : PT X c (tT (arOf X τ B E) mc)) (h1 : PSs X p (tS (arOf X τ B E) m1)) (h2 : PSs X q (tS (arOf X τ B E) m2)) : PS X (.If c p q pos) (tS (arOf X τ B E) fun env => do if ← mc env then m1 env else m2 env) := by
  refine (ps_if hc h1 h2).imp fun D σ H ⟨env, s, R, t, h⟩ => ?_
  refine ⟨env, s, R, t, (SOk.ok R t h).imp fun b s1 H1 e1 t1 q => ?_⟩
  cases b with
  | true => exact ⟨env, s1, R.xt t e1, t1, q⟩
  | false => exact ⟨env, s1, R.xt t e1, t1, q⟩

/-! ### stores -/
theorem Pst.set {a : Ar} {env : Env} {σ : St} {H : Hp} {i : Nat} {v : V} {d : D} (R : a.Rp env σ H) (dv : Dv a.P a.w a.K a.τ (Av a.B env σ) true H v d) : Pst a env σ H (setE env i d) (σ.set i (some v)) H := by
  obtain ⟨R', hO⟩ := R.set (i := i) dv
  exact ⟨R', (Al.refl H).ke, fun b h => .inl (hO b h)⟩
theorem ss_asg {e : Expr} {m : Env → M D} {x : Str} {i : Nat} {p : Pos} (g : Gd X) (hi : X.N[i]? = some x) (hx : L2.Loc X.env.scope x) (hf : X.fn x = true ∨ X.env.scope.names.lookup x = some .local) (h : PE X e (tD (arOf X τ B E) true m))
    (hs : swapsWith e (some (.Name x p)) pos.line X.env = pure false) : PS X (.Assign [.Name x p] e pos) (tS (arOf X τ B E) fun env => do let d ← m env; M.ret (.nx (setE env i d))) := by
  refine (ps_set g.nd hi hx h hs hf).imp fun D σ H ⟨env, s, R, t, h⟩ => ?_
  exact ⟨env, s, R, t, (SOk.ok R t h).imp fun d s1 H1 e1 t1 q v dv => q _ H1 (Pst.set (R.xt t e1) dv) t1⟩
theorem swb_of {a : Ar} {tg : Tg} {env env' : Env} {σ : St} {H : Hp} {d : PyData} {v : V} {Q : St → Hp → Prop} (R : a.Rp env σ H) (hd : Dr a.K (Av a.B env σ) H v d) (hb : bindTg tg d env = some env') (q : ∀ σ', Pst a env σ H env' σ' H → Q σ' H) : tG a tg v σ H Q :=
  ⟨env, env', d, R, hd, hb, fun σ' R' hO _ _ => q σ' ⟨R', (Al.refl H).ke, fun b h => .inl (hO b h)⟩⟩
theorem ss_asgT {e tgx : Expr} {m : Env → M D} {tg : Tg} (hg : PG X tgx (tG (arOf X τ B E) tg)) (h : PE X e (tD (arOf X τ B E) true m)) (hs : swapsWithSole [tgx] e pos.line X.env = pure false) (hw : swappedStores [tgx] e X.env = pure none)
    (h1 : (assignEach [tgx] X.env).map (·.2) = [assign tgx X.env]) : PS X (.Assign [tgx] e pos) (tS (arOf X τ B E) fun env => do let d ← datOf (← m env); let env' ← M.of (bindTg tg d env); M.ret (.nx env')) := by
  refine (ps_asg h hg hs hw h1).imp fun D σ H ⟨env, s, R, t, h⟩ => ?_
  refine ⟨env, s, R, t, (SOk.ok R t h).imp fun d s1 H1 e1 t1 q v dv => ?_⟩
  have R1 := R.xt t e1
  obtain ⟨d, rfl, q2⟩ := (SOk.ok R1 t1 q).dat
  obtain ⟨env', hb, q3⟩ := (SOk.ok R1 t1 (q2 H1 (Xt.refl H1) t1)).of
  exact swb_of R1 dv hb fun σ' p => q3 H1 (Xt.refl H1) t1 σ' H1 p t1
/-- a new object that is still written -/
theorem Pst.own1 {a : Ar} {env : Env} {σ : St} {H H1 : Hp} {s : Twn} {i : Nat} {p : Addr} {d : D} (R : a.Rp env σ H) (t : TownR a.τ H s) (x : Xt a.τ H H1) (hp : H p = none) (hq : H1 p ≠ none) (dv : Dv a.P a.w a.K a.τ (fun b => Av a.B env σ b ∨ b = p) false H1 (.ref p) d) :
    Pst a env σ H (env.set i (some (true, d))) (σ.set i (some (.ref p))) H1 := by
  have hO : ∀ b, Own (env.set i (some (true, d))) (σ.set i (some (.ref p))) b → Own env σ b ∨ b = p := fun b ⟨j, e, h1, h2⟩ => by
    rcases set_get h2 with ⟨rfl, z⟩ | ⟨hj, h2⟩
    · cases z
      exact .inr rfl
    · rcases set_get h1 with ⟨z, _⟩ | ⟨_, h1⟩
      · exact absurd z hj
      · exact .inl ⟨j, e, h1, h2⟩
  have hA : ∀ b, Av a.B (env.set i (some (true, d))) (σ.set i (some (.ref p))) b → Av a.B env σ b ∨ b = p := fun b h => by
    rcases h with h | h
    · exact .inl (.inl h)
    · exact (hO b h).imp .inr id
  have hT : ∀ b, a.τ.T b → Av a.B (env.set i (some (true, d))) (σ.set i (some (.ref p))) b := fun b h => .inl (R.tB b (.inl h))
  have dvK : ∀ {md : Bool} {v : V} {d' : D}, Dv a.P a.w a.K a.τ (Av a.B env σ) md H v d' → Dv a.P a.w a.K a.τ (Av a.B (env.set i (some (true, d))) (σ.set i (some (.ref p)))) md H1 v d' := fun {md v d'} h => Xt.dv x t hT (Dv.mono hA (Dv.fresh hp h))
  have nB : ∀ b, a.B b → b ≠ p := fun b z q => R.dom b z (by rw [q]; exact hp)
  refine ⟨⟨by rw [List.length_set, List.length_set]; exact R.len, fun j e h => ?_, fun j e h => ?_, fun j k b d1 d2 h1 h2 h3 h4 => ?_, fun b h => x.2.1 b (R.dom b h), R.tB⟩, x.mono fun _ h => .inl h, fun b h => (hO b h).imp id fun z => by rw [z]; exact hp⟩
  · rcases set_get h with ⟨_, z⟩ | ⟨hj, h⟩
    · cases z
    · obtain ⟨u, h1, h2⟩ := R.val j e h
      exact ⟨u, by rw [List.getElem?_set_ne (Ne.symm hj)]; exact h1, dvK h2⟩
  · rcases set_get h with ⟨rfl, z⟩ | ⟨hj, h⟩
    · cases z
      have hl : j < env.length := by
        have := (List.getElem?_eq_some_iff.mp h).1
        rwa [List.length_set] at this
      exact ⟨p, by rw [List.getElem?_set_self (by rw [R.len]; exact hl)], fun z => nB p z rfl, hq, Dv.mono hA dv⟩
    · obtain ⟨b, h1, h2, h3, h4⟩ := R.own j e h
      exact ⟨b, by rw [List.getElem?_set_ne (Ne.symm hj)]; exact h1, h2, x.2.1 b h3, dvK h4⟩
  · rcases set_get h1 with ⟨e1, z1⟩ | ⟨n1, h1⟩ <;> rcases set_get h2 with ⟨e2, z2⟩ | ⟨n2, h2⟩
    · rw [e1, e2]
    · rcases set_get h3 with ⟨_, z3⟩ | ⟨z3, _⟩
      · cases z3
        rw [List.getElem?_set_ne (Ne.symm n2)] at h4
        obtain ⟨c, q1, _, q2, _⟩ := R.own k d2 h2
        rw [h4] at q1
        cases q1
        exact absurd hp q2
      · exact absurd e1 z3
    · rcases set_get h4 with ⟨_, z3⟩ | ⟨z3, _⟩
      · cases z3
        rw [List.getElem?_set_ne (Ne.symm n1)] at h3
        obtain ⟨c, q1, _, q2, _⟩ := R.own j d1 h1
        rw [h3] at q1
        cases q1
        exact absurd hp q2
      · exact absurd e2 z3
    · rw [List.getElem?_set_ne (Ne.symm n1)] at h3
      rw [List.getElem?_set_ne (Ne.symm n2)] at h4
      exact R.inj j k b d1 d2 h1 h2 h3 h4
theorem ss_own {e : Expr} {m : Env → M D} {x : Str} {i : Nat} {p : Pos} (g : Gd X) (hi : X.N[i]? = some x) (hx : L2.Loc X.env.scope x) (hf : X.fn x = true ∨ X.env.scope.names.lookup x = some .local) (h : PE X e (tDF (arOf X τ B E) m))
    (hs : swapsWith e (some (.Name x p)) pos.line X.env = pure false) : PS X (.Assign [.Name x p] e pos) (tS (arOf X τ B E) fun env => do let d ← m env; M.ret (.nx (env.set i (some (true, d))))) := by
  refine (ps_set g.nd hi hx h hs hf).imp fun D σ H ⟨env, s, R, t, h⟩ => ?_
  exact ⟨env, s, R, t, Wp.mono (Wp.bnd h) (fun d s1 q H1 e1 t1 p hp hq dv => q _ H1 (Pst.own1 R t e1 hp hq dv) t1) fun c s1 q H1 e1 t1 => q H1 (e1.mono fun _ z => .inl z) t1⟩
/-- a list comprehension on the line of its name, a local -/
theorem ss_asgLc {nm : Nm} {x : Str} {i : Nat} {py : Pos} {spos : Pos} {elt tgx iter : Expr} {ifs : List Expr} {scope : Scope} {own : List Nat} {tg : Tg} {mi : Env → M (List PyData)} {mt : Env → M Bool} {me : Env → M D} (g : Gd X) (hNN : X.N = nm.N)
    (hy : X.N[i]? = some x) (hyl : X.env.scope.names.lookup x = some .local) (hsw : swapsWith (.ListComp elt [⟨tgx, iter, ifs, 0⟩] scope pos) (some (.Name x py)) spos.line X.env = pure true)
    (hi : PI X tgx iter (tI (arOf X τ B E) false mi)) (hb : blkC nm.N X.env.scope scope (ownOf nm own) = true) (ho : (tgSl tg).all own.contains = true)
    (hg : ∀ (s : Shared) (H : Hp) (C : Addr) (cl : List (Str × Addr)) (fp : List Addr), PG (X.blk s H scope (compEnvC scope cl C X.env) fp) tgx (tGx (arOf X τ B fun _ _ _ => False) tg))
    (ht : ∀ (s : Shared) (H : Hp) (C : Addr) (cl : List (Str × Addr)) (fp : List Addr), PTs (X.blk s H scope (compEnvC scope cl C X.env) fp) ifs (tTx (arOf X τ B fun _ _ _ => False) mt))
    (he : ∀ (s : Shared) (H : Hp) (C : Addr) (cl : List (Str × Addr)) (fp : List Addr), PE (X.blk s H scope (compEnvC scope cl C X.env) fp) elt (tDx (arOf X τ B fun _ _ _ => False) me))
    (hs : ∀ x, foldedSetIterable iter X.env x = pure x) :
    PS X (.Assign [.Name x py] (.ListComp elt [⟨tgx, iter, ifs, 0⟩] scope pos) spos) (tS (arOf X τ B E) fun env => do
      let d ← (do
        let xs ← mi env
        if ownFree env own then
          let r ← lcGo (turnOf own tg mt me env) xs
          if fits r then M.ret (lst r) else M.non
        else M.non)
      M.ret (.nx (setE env i d))) := by
  have ok : BlkOk X.N X.env.scope scope (ownOf nm own) := blkOk_by (by rw [hNN]; exact hb)
  refine (ps_setLc g.calm g.nd hy hyl hsw hi ok hg ht he hs).imp fun D σ H ⟨env, s, R, t, h⟩ => ?_
  show tLc _ _ _ _ _ σ H _
  rw [ownOf_map]
  refine lc_imp ho σ H _ (tDF_of (md := true) ⟨env, s, R, t, ?_⟩)
  exact (SOk.ok R t h).imp fun d s1 H1 e1 t1 q v dv => q _ H1 (Pst.set (R.xt t e1) dv) t1

/-! ### writing on what is owned -/
theorem Dv.ke {P : Program} {w : World} {K : PySem.W.Frag} {S S' : Addr → Prop} {H H' : Hp} {v : V} {d : D} (k : Ke S H H') (hS : ∀ a, S a → S' a) (h : Dv P w K τ S' true H v d) : Dv P w K τ S' true H' v d := by
  cases d with
  | dat d => exact k.dr hS h
  | dK kvs =>
    obtain ⟨a, e, n, m, vs, h1, pr⟩ := h
    exact ⟨a, e, n, m, vs, k.1 a _ (fun z => n rfl (hS a z)) (fun _ z => by cases z) h1, Paired.mp pr fun p q ⟨h1, h2⟩ => ⟨h1, k.dr hS h2⟩⟩
  | dT kvs =>
    obtain ⟨a, e, n, m, o, es, ep, xs, e1, r1, r2, r3, r4, r5, r6, pr⟩ := h
    exact ⟨a, e, n, m, o, es, ep, xs, k.1 a _ (fun z => n rfl (hS a z)) (fun _ z => by unfold ObO at z; cases z) e1, r1, r2, r3, r4, r5, r6, Paired.mp pr fun p q ⟨h1, h2, h3, v, h4, h5⟩ => ⟨h1, h2, k.dr hS h3, v, h4, k.dr hS h5⟩⟩
  | fn i => exact h
  | town => exact h
  | scr => exact h
theorem Dv.keF {P : Program} {w : World} {K : PySem.W.Frag} {S S' : Addr → Prop} {H H' : Hp} {p : Addr} {d : D} (k : Ke S H H') (hS : ∀ a, S a → S' a) (n : ¬ S p) (h : Dv P w K τ S' false H (.ref p) d) : Dv P w K τ S' false H' (.ref p) d := by
  cases d with
  | dat d =>
    rcases (show DrI K S' H (.ref p) d from h) with h | ⟨a, xs, ds, e1, e2, e, q⟩
    · exact Or.inl (k.dr hS h)
    · cases e1
      exact Or.inr ⟨p, xs, ds, rfl, e2, k.1 p _ n (fun _ z => by cases z) e, k.drs hS q⟩
  | dK kvs =>
    obtain ⟨a, e, n', m, vs, h1, pr⟩ := h
    cases e
    exact ⟨p, rfl, n', m, vs, k.1 p _ n (fun _ z => by cases z) h1, Paired.mp pr fun p q ⟨h1, h2⟩ => ⟨h1, k.dr hS h2⟩⟩
  | dT kvs =>
    obtain ⟨a, e, n', m, o, es, ep, xs, e1, r1, r2, r3, r4, r5, r6, pr⟩ := h
    cases e
    exact ⟨p, rfl, n', m, o, es, ep, xs, k.1 p _ n (fun _ z => by unfold ObO at z; cases z) e1, r1, r2, r3, r4, r5, r6, Paired.mp pr fun p q ⟨h1, h2, h3, v, h4, h5⟩ => ⟨h1, h2, k.dr hS h3, v, h4, k.dr hS h5⟩⟩
  | fn i => exact h
  | town => exact h
  | scr => exact h
theorem Pst.wr {a : Ar} {env : Env} {σ : St} {H H' : Hp} {i : Nat} {l : Addr} {d d' : D} (R : a.Rp env σ H) (hi : env[i]? = some (some (true, d))) (hs : σ[i]? = some (some (.ref l))) (k : Ke (fun b => b = l) H H') (hd : Dv a.P a.w a.K a.τ (Av a.B env σ) false H' (.ref l) d') :
    Pst a env σ H (env.set i (some (true, d'))) σ H' := by
  have hl : Own env σ l := ⟨i, d, hi, hs⟩
  have hO : ∀ b, Own (env.set i (some (true, d'))) σ b → Own env σ b := fun b ⟨j, e, h1, h2⟩ => by
    rcases set_get h1 with ⟨rfl, z⟩ | ⟨hj, h1⟩
    · rw [hs] at h2
      cases h2
      exact hl
    · exact ⟨j, e, h1, h2⟩
  have hA : ∀ b, Av a.B (env.set i (some (true, d'))) σ b → Av a.B env σ b := fun b h => h.imp id (hO b)
  have kS : ∀ b, b = l → Av a.B env σ b := fun b z => by rw [z]; exact .inr hl
  refine ⟨⟨by rw [List.length_set]; exact R.len, fun j e h => ?_, fun j e h => ?_, fun j m b d1 d2 h1 h2 h3 h4 => ?_, fun b h => k.2.1 b (R.dom b h), R.tB⟩, k.mono fun b z => by rw [z]; exact .inr hl, fun b h => .inl (hO b h)⟩
  · rcases set_get h with ⟨_, z⟩ | ⟨hj, h⟩
    · cases z
    · obtain ⟨u, h1, h2⟩ := R.val j e h
      exact ⟨u, h1, Dv.mono hA (Dv.ke k kS h2)⟩
  · rcases set_get h with ⟨rfl, z⟩ | ⟨hj, h⟩
    · cases z
      obtain ⟨b, h1, h2, h3, h4⟩ := R.own j d hi
      rw [hs] at h1
      cases h1
      exact ⟨l, hs, h2, k.2.1 l h3, Dv.mono hA hd⟩
    · obtain ⟨b, h1, h2, h3, h4⟩ := R.own j e h
      exact ⟨b, h1, h2, k.2.1 b h3, Dv.mono hA (Dv.keF k kS (fun z => hj (R.inj j i b e d h hi h1 (by rw [z]; exact hs))) h4)⟩
  · have back : ∀ {j : Nat} {e : D}, (env.set i (some (true, d')))[j]? = some (some (true, e)) → ∃ e', env[j]? = some (some (true, e')) := fun {j e} h => by
      rcases set_get h with ⟨z, _⟩ | ⟨_, h⟩
      · exact ⟨d, by rw [z]; exact hi⟩
      · exact ⟨e, h⟩
    obtain ⟨e1, k1⟩ := back h1
    obtain ⟨e2, k2⟩ := back h2
    exact R.inj j m b e1 e2 k1 k2 h3 h4
theorem ownD_of {env : Env} {i : Nat} {d : D} (h : ownD env i = some d) : env[i]? = some (some (true, d)) := by
  unfold ownD at h
  split at h
  · cases h
    assumption
  · cases h
/-- the town is elsewhere -/
def Apart (τ : Tn) (l : Addr) (H H' : Hp) : Prop := ¬ τ.U l → ∀ s, TownR τ H s → TownR τ H' s
def rSto (P : Program) (w : World) (K : PySem.W.Frag) (τ : Tn) : TSet := fun o i v H Q => ∃ (S : Addr → Prop) (l : Addr) (m : D) (y d : PyData) (m' : D), o = .ref l ∧ S l ∧ (∀ a, S a → H a ≠ none) ∧ Dv P w K τ S false H (.ref l) m ∧ Dr K S H i y ∧ Dr K S H v d ∧ stoD m y d = some m' ∧
  ∀ H', Ke (fun b => b = l) H H' → Apart τ l H H' → Dv P w K τ S false H' (.ref l) m' → Q H'
theorem apart_lst {l : Addr} {xs ys : List V} {H : Hp} (h : H l = some (.lst xs)) : Apart τ l H (upd H l (.lst ys)) := fun n s t => t.upd h fun z e => n (.inr ⟨z, e⟩)
theorem set_all : PSet X (rSto X.prog X.w X.K τ) := by
  intro pins s σ H o i v ov iv u Q I ro ri rv ⟨S, l, m, y, d, m', e, hl, hS, hm, hy, hd, hg, q⟩
  subst e
  unfold stoD at hg
  split at hg
  · simp only [Option.map_eq_some_iff] at hg
    obtain ⟨j, hj, rfl⟩ := hg
    obtain ⟨a, xs, e, hx, hds⟩ := hm.i.lst
    cases e
    cases hy
    rw [← hds.length] at hj
    have ku := upd_ke (xs := xs.set j v) hx
    have kS : ∀ b, b = l → S b := fun b z => by rw [z]; exact hl
    exact set_list pins s σ H _ _ v ov iv u Q I ro ri rv ⟨l, xs, _, j, rfl, rfl, hx, hj, q _ ku (apart_lst hx) (Or.inr ⟨l, _, _, rfl, rfl, upd_same, (ku.drs kS hds).set (ku.dr kS hd) j⟩)⟩
  · cases hg
theorem ss_sto {e k : Expr} {o : Str} {i : Nat} {po p : Pos} {m mk : Env → M D} (hN : X.N[i]? = some o) (hv : Vis X.env.scope o) (hdb : (o == ("__debug__" : Str)) = false) (hcd : (o == ("__classdict__" : Str)) = false)
    (he : PE X e (tD (arOf X τ B E) true m)) (hk : PE X k (tD (arOf X τ B E) true mk)) (ha : ∀ v, assign (.Subscript (.Name o po) k p) X.env v = (do
      let ov ← holding [v] (eval (.Name o po) X.env)
      let iv ← holding [v, ov] (eval k X.env)
      standAt p
      holding [v, ov, iv] (setItem ov iv v)
      release [v, ov, iv] []))
    (hs : swapsWithSole [.Subscript (.Name o po) k p] e pos.line X.env = pure false) (hw : swappedStores [.Subscript (.Name o po) k p] e X.env = pure none) :
    PS X (.Assign [.Subscript (.Name o po) k p] e pos) (tS (arOf X τ B E) fun env => do
      let d ← datOf (← m env)
      let b ← M.of (ownD env i)
      let y ← datOf (← mk env)
      let b' ← M.of (stoD b y d)
      M.ret (.nx (env.set i (some (true, b'))))) := by
  refine (ps_asg he (pg_sub (pe_var hN hv hdb hcd) hk (set_all (τ := τ)) ha) hs hw rfl).imp fun D σ H ⟨env, s, R, t, h⟩ => ?_
  refine ⟨env, s, R, t, (SOk.ok R t h).imp fun d s1 H1 e1 t1 q v dv => ?_⟩
  have R1 := R.xt t e1
  obtain ⟨d, rfl, q2⟩ := (SOk.ok R1 t1 q).dat
  obtain ⟨b, hb, q3⟩ := (SOk.ok R1 t1 (q2 H1 (Xt.refl H1) t1)).of
  have hb := ownD_of hb
  obtain ⟨l, hl, nB, nl, _⟩ := R1.own i b hb
  refine ⟨_, hl, env, s1, R1, t1, (SOk.ok R1 t1 (q3 H1 (Xt.refl H1) t1)).imp fun y s2 H2 e2 t2 q4 u du => ?_⟩
  have R2 := R1.xt t1 e2
  obtain ⟨y, rfl, q5⟩ := (SOk.ok R2 t2 q4).dat
  obtain ⟨b', hb', q6⟩ := (SOk.ok R2 t2 (q5 H2 (Xt.refl H2) t2)).of
  obtain ⟨l', hl', _, _, dl⟩ := R2.own i b hb
  rw [hl] at hl'
  cases hl'
  refine ⟨Av B env σ, l, b, y, d, b', rfl, .inr ⟨i, b, hb, hl⟩, R2.sdom, dl, du, Xt.dv (d := .dat d) e2 t1 R.tS dv, hb', fun H3 k3 ap dv3 => ?_⟩
  have p3 := Pst.wr R2 hb hl k3 dv3
  exact q6 H2 (Xt.refl H2) t2 σ H3 p3 (ap (fun z => nB (R.tB _ z)) s2 t2)
theorem ownL_of {env : Env} {i : Nat} {ds : List PyData} (h : ownL env i = some ds) : env[i]? = some (some (true, lst ds)) := by
  unfold ownL at h
  split at h
  · cases h
    assumption
  · cases h
theorem listD_of {d : D} {ds : List PyData} (h : listD d = some ds) : d = lst ds := by
  unfold listD at h
  split at h
  · cases h
    rfl
  · cases h
theorem ss_app {e : Expr} {o : Str} {i : Nat} {po ap cp : Pos} {m : Env → M D} (hN : X.N[i]? = some o) (hv : Vis X.env.scope o) (hdb : (o == ("__debug__" : Str)) = false) (hcd : (o == ("__classdict__" : Str)) = false)
    (he : PE X e (tD (arOf X τ B E) true m)) (ns : starred e = false) (hl : (ap.endLine == cp.line) = true) (hsw : swapsWith (.Call (.Attribute (.Name o po) "append" ap) [e] [] cp) none pos.line X.env = pure false) (hbase : attributeBase (.Name o po) "append" X.env (eval (.Name o po) X.env) = eval (.Name o po) X.env) :
    PS X (.Expr (.Call (.Attribute (.Name o po) "append" ap) [e] [] cp) pos) (tS (arOf X τ B E) fun env => do
      let xs ← M.of (ownL env i)
      let d ← datOf (← m env)
      if xs.length < sizeLine then M.ret (.nx (env.set i (some (true, lst (xs ++ [d]))))) else M.non) := by
  have hst : starEach [e] X.env = (false, eval e X.env) :: starEach [] X.env := star1 ns
  refine (ps_expr (pe_bm PySem.F.plainAttrs_list PySem.F.slot_list_append PySem.F.type_list_append mt_append (pe_var hN hv hdb hcd) (pa_cons he pa_nil hst) hbase (by rw [hst]; rfl) hl hst rfl) hsw).imp fun D σ H ⟨env, s, R, t, h⟩ => ?_
  obtain ⟨ds, hb, q⟩ := (SOk.ok R t h).of
  have hb := ownL_of hb
  obtain ⟨l, hl, nB, nl, dl⟩ := R.own i _ hb
  obtain ⟨l', xs, el, hx, _⟩ := dl.i.lst
  cases el
  refine ⟨_, hl, Or.inl ⟨rfl, _, SqL.of hx⟩, env, s, R, t, (SOk.ok R t (q H (Xt.refl H) t)).imp fun d s1 H1 e1 t1 q v dv => ?_⟩
  have R1 := R.xt t e1
  obtain ⟨d, rfl, q2⟩ := (SOk.ok R1 t1 q).dat
  obtain ⟨hz, q3⟩ := Wp.ifN (q2 H1 (Xt.refl H1) t1)
  obtain ⟨l', hl', _, _, dl1⟩ := R1.own i _ hb
  rw [hl] at hl'
  cases hl'
  obtain ⟨l', ys, el, hy, dys⟩ := dl1.i.lst
  cases el
  have ku := upd_ke (xs := ys ++ [v]) hy
  have kS : ∀ b, b = l → Av B env σ b := fun b z => by rw [z]; exact .inr ⟨i, _, hb, hl⟩
  refine ⟨l, ys, v, rfl, rfl, hy, by rw [dys.length]; exact hz, ?_⟩
  exact q3 σ _ (Pst.wr R1 hb hl ku (Or.inr ⟨l, _, _, rfl, rfl, upd_same, (ku.drs kS dys).append (.cons (ku.dr kS dv) .nil)⟩)) (apart_lst hy (fun z => nB (R.tB _ z)) s1 t1)
theorem ss_ext {e : Expr} {o : Str} {i : Nat} {po ap cp : Pos} {m : Env → M D} (hN : X.N[i]? = some o) (hv : Vis X.env.scope o) (hdb : (o == ("__debug__" : Str)) = false) (hcd : (o == ("__classdict__" : Str)) = false)
    (he : PE X e (tD (arOf X τ B E) true m)) (ns : starred e = false) (hl : (ap.endLine == cp.line) = true) (hsw : swapsWith (.Call (.Attribute (.Name o po) "extend" ap) [e] [] cp) none pos.line X.env = pure false) (hbase : attributeBase (.Name o po) "extend" X.env (eval (.Name o po) X.env) = eval (.Name o po) X.env) :
    PS X (.Expr (.Call (.Attribute (.Name o po) "extend" ap) [e] [] cp) pos) (tS (arOf X τ B E) fun env => do
      let xs ← M.of (ownL env i)
      let ys ← M.of (listD (← m env))
      if xs.length + ys.length ≤ sizeLine then M.ret (.nx (env.set i (some (true, lst (xs ++ ys))))) else M.non) := by
  have hst : starEach [e] X.env = (false, eval e X.env) :: starEach [] X.env := star1 ns
  refine (ps_expr (pe_bm PySem.F.plainAttrs_list PySem.F.slot_list_extend PySem.F.type_list_extend mt_extend (pe_var hN hv hdb hcd) (pa_cons he pa_nil hst) hbase (by rw [hst]; rfl) hl hst rfl) hsw).imp fun D σ H ⟨env, s, R, t, h⟩ => ?_
  obtain ⟨ds, hb, q⟩ := (SOk.ok R t h).of
  have hb := ownL_of hb
  obtain ⟨l, hl, nB, nl, dl⟩ := R.own i _ hb
  obtain ⟨l', xs, el, hx, _⟩ := dl.i.lst
  cases el
  refine ⟨_, hl, Or.inl ⟨rfl, _, SqL.of hx⟩, env, s, R, t, (SOk.ok R t (q H (Xt.refl H) t)).imp fun d s1 H1 e1 t1 q v dv => ?_⟩
  have R1 := R.xt t e1
  obtain ⟨es, hd, q2⟩ := (SOk.ok R1 t1 q).of
  obtain rfl := listD_of hd
  obtain ⟨hz, q3⟩ := Wp.ifN (q2 H1 (Xt.refl H1) t1)
  obtain ⟨l', hl', _, _, dl1⟩ := R1.own i _ hb
  rw [hl] at hl'
  cases hl'
  obtain ⟨l', ys, el, hy, dys⟩ := dl1.i.lst
  cases el
  have ku := upd_ke (xs := ys) hy
  have kS : ∀ b, b = l → Av B env σ b := fun b z => by rw [z]; exact .inr ⟨i, _, hb, hl⟩
  cases (show Dr X.K (Av B env σ) H1 v (.list es) from dv) with
  | lst hv n dvs =>
    rename_i b zs
    have ku := upd_ke (xs := ys ++ zs) hy
    refine ⟨l, b, ys, zs, rfl, rfl, hy, hv, by rw [dys.length, dvs.length]; exact hz, ?_⟩
    exact q3 σ _ (Pst.wr R1 hb hl ku (Or.inr ⟨l, _, _, rfl, rfl, upd_same, (ku.drs kS dys).append (ku.drs kS dvs)⟩)) (apart_lst hy (fun z => nB (R.tB _ z)) s1 t1)

/-! ### what is no longer written -/
theorem frz1 {a : Ar} {env : Env} {σ : St} {H : Hp} {i : Nat} {d : D} (R : a.Rp env σ H) (hi : env[i]? = some (some (true, d))) : Pst a env σ H (env.set i (some (false, d))) σ H := by
  obtain ⟨l, hl, nB, nl, dl⟩ := R.own i d hi
  have hO : ∀ b, Own (env.set i (some (false, d))) σ b → Own env σ b := fun b ⟨j, e, h1, h2⟩ => by
    rcases set_get h1 with ⟨rfl, z⟩ | ⟨hj, h1⟩
    · cases z
    · exact ⟨j, e, h1, h2⟩
  have hA : ∀ b, Av a.B (env.set i (some (false, d))) σ b → Av a.B env σ b := fun b h => h.imp id (hO b)
  have hn : ¬ Av a.B (env.set i (some (false, d))) σ l := fun z => by
    rcases z with z | ⟨j, e, h1, h2⟩
    · exact nB z
    · rcases set_get h1 with ⟨rfl, z⟩ | ⟨hj, h1⟩
      · cases z
      · exact hj (R.inj j i l e d h1 hi h2 hl)
  refine ⟨⟨by rw [List.length_set]; exact R.len, fun j e h => ?_, fun j e h => ?_, fun j k b d1 d2 h1 h2 h3 h4 => ?_, R.dom, R.tB⟩, (Al.refl H).ke, fun b h => .inl (hO b h)⟩
  · rcases set_get h with ⟨rfl, z⟩ | ⟨hj, h⟩
    · cases z
      refine ⟨.ref l, hl, Dv.keep (Dv.mono (fun b z => ?_) dl) hn⟩
      rcases z with z | z
      · exact hA b z
      · rw [z]
        exact .inr ⟨j, d, hi, hl⟩
    · obtain ⟨u, h1, h2⟩ := R.val j e h
      exact ⟨u, h1, Dv.mono hA h2⟩
  · rcases set_get h with ⟨rfl, z⟩ | ⟨hj, h⟩
    · cases z
    · obtain ⟨b, h1, h2, h3, h4⟩ := R.own j e h
      exact ⟨b, h1, h2, h3, Dv.mono hA h4⟩
  · rcases set_get h1 with ⟨_, z⟩ | ⟨_, h1⟩
    · cases z
    rcases set_get h2 with ⟨_, z⟩ | ⟨_, h2⟩
    · cases z
    exact R.inj j k b d1 d2 h1 h2 h3 h4
theorem frz_id {l : Env} {i : Nat} {d : D} (h : l[i]? = some (some (false, d))) : l.set i (some (false, d)) = l := by
  apply List.ext_getElem?
  intro j
  by_cases e : j = i
  · subst e
    rw [List.getElem?_set, if_pos rfl, if_pos (List.getElem?_eq_some_iff.mp h).1, h]
  · rw [List.getElem?_set_ne (Ne.symm e)]
theorem Pst.frz {a : Ar} {env : Env} {σ : St} {H : Hp} (R : a.Rp env σ H) : ∀ is : List Nat, Pst a env σ H (frzE env is) σ H
  | [] => Pst.refl R
  | i :: is => by
    have p := Pst.frz R is
    unfold frzE
    split
    · rename_i o d hd
      cases o with
      | true => exact p.trans (frz1 p.rp hd)
      | false => rw [frz_id hd]; exact p
    · exact p

/-! ### loops -/
theorem forGo_cons {turn : PyData → Env → M Fl} {x : PyData} {xs : List PyData} {env : Env} : forGo turn (x :: xs) env = (do match ← turn x env with
    | .nx env' => forGo turn xs env'
    | .rt d => M.ret (.rt d)) := rfl
theorem ss_for {tgx iter : Expr} {body : List Stmt} {tg : Tg} {mi : Env → M (List PyData)} {mb : Env → M Fl} (g : Gd X) (hp : PassesOwn (model X.prog X.w) X.A X.env X.xe) (hi : PI X tgx iter (tI (arOf X τ B E) true mi)) (hg : PG X tgx (tG (arOf X τ B E) tg)) (hb : PSs X body (tS (arOf X τ B E) mb))
    (hs : ∀ x, foldedSetIterable iter X.env x = pure x) : PS X (.For tgx iter body [] pos) (tS (arOf X τ B E) fun env => do
      let xs ← mi env
      forGo (fun x env => do
        let env' ← M.of (bindTg tg x env)
        mb env') xs env) := by
  refine (ps_for hp g.calm hi hg hb hs).imp fun D σ H ⟨env, s, R, t, h⟩ => ?_
  refine ⟨env, s, R, t, (SOk.ok R t h).imp fun ds s1 H1 e1 t1 q J hJ => ?_⟩
  have R1 := R.xt t e1
  refine ⟨fun i m σ' H' => m = ds.length - i ∧ i ≤ ds.length ∧ ∃ env' s', Pst (arOf X τ B E) env σ H1 env' σ' H' ∧ TownR τ H' s' ∧ SOk (arOf X τ B E) env' σ' H' D (forGo (fun x env => do
        let env' ← M.of (bindTg tg x env)
        mb env') (ds.drop i) env' s'), ⟨ds.length, by simp, Nat.zero_le _, env, s1, Pst.refl R1, t1, q⟩, ?_⟩
  rintro i m σ2 H2 ⟨rfl, hil, env2, s2, p2, t2, q2⟩
  have hS : ∀ b, (Av B env2 σ2 b ∨ Av B env σ b) → Av B env σ b ∨ H1 b = none := fun b z => by
    rcases z with (z | z) | z
    · exact .inl (.inl z)
    · exact (p2.own b z).imp .inr id
    · exact .inl z
  have kR : Ke (Av B env σ) H1 H2 := p2.ke.mono fun b z => z.imp (fun z => R.tB b (.inl z)) id
  obtain ⟨hgo, hst⟩ := hJ (fun b => Av B env2 σ2 b ∨ Av B env σ b) i H2 hS (fun b z => .inr z) kR
  by_cases hlt : i < ds.length
  · refine .inr ?_
    have hdi : ds[i]? = some ds[i] := by simp [hlt]
    obtain ⟨g1, g2⟩ := hgo _ hdi
    rw [List.drop_eq_getElem_cons hlt, forGo_cons] at q2
    refine ⟨g1, fun σ' H' => ∃ env3 s3, Pst (arOf X τ B E) env σ H1 env3 σ' H' ∧ TownR τ H' s3 ∧ SOk (arOf X τ B E) env3 σ' H' D (forGo (fun x env => do
        let env' ← M.of (bindTg tg x env)
        mb env') (ds.drop (i + 1)) env3 s3), fun σ' H' ⟨env3, s3, p3, t3, q3⟩ => ⟨ds.length - (i + 1), by omega, rfl, hlt, env3, s3, p3, t3, q3⟩, fun x H3 hy => ?_⟩
    obtain ⟨al, dx⟩ := g2 x H3 hy
    have R3 : Rep X.prog X.w X.K τ B env2 σ2 H3 := p2.rp.xt t2 al.xt
    have t3 := al.town t2
    have p3 : Pst (arOf X τ B E) env2 σ2 H2 env2 σ2 H3 := Pst.xt p2.rp t2 al.xt
    obtain ⟨env3, hbt, q3⟩ := (SOk.ok p2.rp t2 q2.seq).of
    refine swb_of (a := (arOf X τ B E)) R3 (Dr.mono (fun b z => .inl z) _ _ dx) hbt fun σ4 p4 => ?_
    refine ⟨env3, s2, p4.rp, t3, Wp.mono (q3 H3 al.xt t3) (fun fl s5 z => ?_) fun c s5 z H' k t => z H' (Ke.ext (Al.refl H3).ke k p4.ch) t⟩
    cases fl with
    | nx env5 =>
      intro σ5 H5 p5 t5
      obtain ⟨env6, s6, p6, t6, q6⟩ := z σ5 H5 (p4.trans p5) t5
      exact ⟨env6, s6, p2.trans p6, t6, q6⟩
    | rt d => exact fun v H' k t dv => z v H' (Ke.ext (Al.refl H3).ke k p4.ch) t dv
  · have e : i = ds.length := by omega
    subst e
    rw [List.drop_length] at q2
    exact .inl ⟨hst (Nat.le_refl _), q2 σ2 H2 (Pst.refl p2.rp) t2⟩
theorem ss_while {c : Expr} {body : List Stmt} {mc : Env → M Bool} {mb : Env → M Fl} {fu : Nat} (hp : PassesOwn (model X.prog X.w) X.A X.env X.xe) (hc : PT X c (tT (arOf X τ B E) mc)) (hb : PSs X body (tS (arOf X τ B E) mb)) :
    PS X (.While c body [] pos) (tS (arOf X τ B E) fun env => whGo mc mb fu env) := by
  refine (ps_while hp hc hb).imp fun D σ H ⟨env, s, R, t, h⟩ => ?_
  refine ⟨fun m σ' H' => ∃ env' s', Pst (arOf X τ B E) env σ H env' σ' H' ∧ TownR τ H' s' ∧ SOk (arOf X τ B E) env' σ' H' D (whGo mc mb m env' s'), ⟨fu, env, s, Pst.refl R, t, h⟩, ?_⟩
  rintro m σ1 H1 ⟨env1, s1, p1, t1, q⟩
  cases m with
  | zero => exact q.elim
  | succ m =>
    have q : SOk (arOf X τ B E) env1 σ1 H1 D ((mc env1 >>= fun b => if b = true then (do match ← mb env1 with
      | .nx env' => whGo mc mb m env'
      | .rt d => M.ret (.rt d)) else M.ret (.nx env1)) s1) := q
    refine ⟨env1, s1, p1.rp, t1, (SOk.ok p1.rp t1 q).imp fun b s2 H2 e2 t2 q2 => ?_⟩
    have p2 := p1.trans (Pst.xt p1.rp t1 e2)
    cases b with
    | true =>
      rw [if_pos rfl] at q2
      show ∃ N : St → Hp → Prop, _
      refine ⟨fun σ' H' => ∃ env3 s3, Pst (arOf X τ B E) env σ H env3 σ' H' ∧ TownR τ H' s3 ∧ SOk (arOf X τ B E) env3 σ' H' D (whGo mc mb m env3 s3), fun σ' H' ⟨env3, s3, p3, t3, q3⟩ => ⟨m, Nat.lt_succ_self m, env3, s3, p3, t3, q3⟩, env1, s2, p2.rp, t2, Wp.mono q2.seq (fun fl s5 z => ?_) fun _ _ z => z⟩
      cases fl with
      | nx env5 =>
        intro σ5 H5 p5 t5
        obtain ⟨env6, s6, p6, t6, q6⟩ := z σ5 H5 p5 t5
        exact ⟨env6, s6, p2.trans p6, t6, q6⟩
      | rt d => exact z
    | false =>
      rw [if_neg Bool.false_ne_true] at q2
      exact q2 σ1 H2 (Pst.refl p2.rp) t2
end
end BK
set_option Elab.async false
set_option linter.all false
set_option maxRecDepth 100000
set_option maxHeartbeats 4000000
/-! The small language says the truth: expressions. -/
namespace BK
open PySem L2

/-- the built-in names that are leant on -/
def biNames : List Str := ["len", "all", "tuple", "list", "sorted", "min", "str", "int", "range", "zip", "enumerate", "isinstance", "bool", "set", "dict"]
structure Fx (nm : Nm) (Gs : Nat → List Int → Fun) (CX : CXT) (X : Cx) (τ : Tn) (E : XK) : Prop where
  gd : Gd X
  N : X.N = nm.N
  fn : ∀ x i, nm.GN[i]? = some x → FnAt CX X τ (Gs i) x (τ.fa i)
  bi : ∀ x, x ∈ biNames → X.mg x = none
  ps : Passes CX X E
  pb : ∀ X' : Cx, X'.prog = X.prog → X'.w = X.w → Passes CX X' (fun _ _ _ => False)
  K : τ.K = X.K
  cn : ∀ x d, nm.CN.lookup x = some d → ∃ v, (∃ u, X.mg x = some u ∧ RelV v u) ∧ ∀ S H, Dr X.K S H v d
section
variable {nm : Nm} {Gs : Nat → List Int → Fun} {CX : CXT} {X : Cx} {τ : Tn} {E : XK}
theorem Fx.blk (F : Fx nm Gs CX X τ E) (s : Shared) (H : Hp) (scope : Scope) (cenv : PySem.Env) (fp : List Addr) : Fx nm Gs CX (X.blk s H scope cenv fp) τ (fun _ _ _ => False) where
  gd := ⟨F.gd.calm, F.gd.un, F.gd.nd⟩
  N := F.N
  fn := fun x i h => ⟨(F.fn x i h).ok, (F.fn x i h).mg, (F.fn x i h).kp⟩
  bi := F.bi
  ps := F.pb _ rfl rfl
  pb := F.pb
  K := F.K
  cn := F.cn

theorem ck_star {sc : Scope} (c : CE) (x : Expr) (p : Pos) : ck nm sc c (.Starred x p) = false := by
  cases c <;> rfl
theorem ck_ns {sc : Scope} {c : CE} {e : Expr} (h : ck nm sc c e = true) : starred e = false := by
  cases e <;> first
    | rfl
    | (rw [ck_star] at h; cases h)
theorem ck_set {sc : Scope} (c : CE) (l : List Expr) (k : Nat) (p : Pos) : ck nm sc c (.Set l k p) = false := by
  cases c <;> rfl
theorem ckI_fold {sc : Scope} {c : CI} {e t : Expr} {env : PySem.Env} (h : ckI nm sc c e t = true) : ∀ x, foldedSetIterable e env x = pure x := by
  intro x
  cases e <;> first
    | rfl
    | (cases c <;> first
        | (simp only [ckI, ck_set] at h; cases h)
        | (simp [ckI] at h))
theorem nm_of {nm : Nm} {x : Str} {i : Nat} (h : (nm.N[i]? == some x) = true) : nm.N[i]? = some x := by simpa using h
theorem dbg_of {x : Str} (h : notDbg x = true) : (x == ("__debug__" : Str)) = false ∧ (x == ("__classdict__" : Str)) = false := by
  unfold notDbg at h
  simpa using h
theorem isNm_of {sc : Scope} {x : Str} {e : Expr} (h : isNm sc x e = true) : ∃ p, e = .Name x p ∧ sc.names.lookup x = some .globalImplicit := by
  unfold isNm at h
  split at h
  · simp only [Bool.and_eq_true, beq_iff_eq] at h
    obtain ⟨rfl, h2⟩ := h
    exact ⟨_, rfl, glB_of h2⟩
  · cases h
def CEs.ex : CEs → List CE
  | .nil => []
  | .cons e r => e :: r.ex
theorem cks_ns {sc : Scope} : ∀ {es : CEs} {l : List Expr}, cks nm sc es l = true → ∀ e ∈ l, starred e = false
  | .nil, [], _, e, h => by cases h
  | .nil, _ :: _, h, _, _ => by simp [cks] at h
  | .cons _ _, [], h, _, _ => by simp [cks] at h
  | .cons c r, x :: l, h, e, he => by
    simp only [cks, Bool.and_eq_true] at h
    rcases List.mem_cons.mp he with rfl | he
    · exact ck_ns h.1
    · exact cks_ns h.2 e he
end
end BK
set_option Elab.async false
set_option linter.all false
set_option maxRecDepth 100000
set_option maxHeartbeats 4000000
/-! Tuples times ints; len(set(..)); xs[::-1]. -/
namespace BK
open PySem PySem.Spec PyProof.Rows L2
theorem tuple_mul1 (b : Addr) (es : Array Value) (k : Nat) (dx : Option Addr) (so : Array (Option Value)) (y : Int) (u : Tok) (g0 : (decide (y < -(2 ^ 63)) || decide (y ≥ 2 ^ 63)) = false) (g1 : (es.isEmpty || y == 1) = true) :
    Meets (Builtin.«tuple.__mul__» ⟨[.ref b, .int y u], []⟩) (fun _ R z => z.heap.get? b = some { cls := .type "tuple", dict := dx, data := .seq es k, slots := so } ∧ R (.ok (.ret (Value.ref b))) z) :=
  .of_wp fun pr wo ar R z hz => by
    obtain ⟨hp, gn, dr, tk, os⟩ := z
    obtain ⟨hb, hz⟩ := hz
    have ix := AutoSeq1.idx_int
    (wp_walk using wpAny_loadPart' hb); refine wpAny_ite_false (decide_eq_false (by rw [g0]; exact Bool.false_ne_true)) ?_
    (wp_walk using wpAny_loadPart' hb); exact ⟨_, rfl, hz⟩
section
variable {X : Cx} {τ : Tn}
/-- once is the tuple itself -/
theorem op_one : OpR X (binaryOp .Mult) (fun x y H Q => ∃ l xs, x = .ref l ∧ y = .int 1 ∧ SqT X.K H l xs ∧ Q (.ref l) H) := by
  intro pins s σ H x y v u Q I rx ry h
  obtain ⟨l, xs, rfl, rfl, hT, q⟩ := h
  cases rx
  obtain ⟨t, rfl⟩ := ry
  obtain ⟨its, r, ⟨⟨cls, dd, data, sl⟩, ho, hc, n, hd⟩, hs⟩ := I.tuple hT
  simp only at hc hd
  subst hc hd
  refine wpAny_binaryOp_repeat_ref (T := "tuple") (U := "int") (by decide) ⟨_, ho, rfl⟩ (fun s' => typeIs_int s' 1 t) noFill_tuple_mul F.fills_int_mul F.slot_int_rmul repeat_tuple F.slot_int_index.lookup
    (call_meets F.slot_int_rmul (typeIs_int s 1 t) F.entry_int_rmul (F.args_int_rmul_2 _ _) (int_rmul_tuple 1 t l its.toArray n dd sl)
      ⟨ho, rfl, ⟨_, ho, rfl⟩, call_meets F.slot_tuple_mul ⟨_, ho, rfl⟩ F.entry_tuple_mul (F.args_tuple_mul_2 _ _) (tuple_mul1 l its.toArray n dd sl 1 t (by decide) (by rw [Bool.or_eq_true]; exact .inr rfl)) ⟨ho, ?_⟩⟩)
  exact ⟨.ref l, H, I, rfl, q⟩
theorem rep_one {α : Type} (xs : List α) : (List.replicate (1 : Int).toNat xs).flatten = xs := by
  show (List.replicate 1 xs).flatten = xs
  simp
theorem ob_mul : OpR X (binaryOp .Mult) (rB X.prog X.w X.K τ opMul) := by
  intro pins s σ H x y v u Q I rx ry ⟨S, dx, dy, r, hS, hx, hy, hg, q⟩
  unfold opMul at hg
  split at hg
  · rename_i ds k
    obtain ⟨⟨h1, h2, h3, h4⟩, hg⟩ := Option.ite_none_right_eq_some.mp hg
    cases hg
    obtain rfl := hy.i.int
    obtain ⟨p, xs, rfl, hp, hd⟩ := hx.i.tup
    by_cases hk : k = 1
    · subst hk
      rw [rep_one] at q
      exact op_one pins s σ H _ _ v u Q I rx ry ⟨p, xs, rfl, rfl, hp, q _ _ (Al.refl H) (.tup hp hd)⟩
    · exact op_repT pins s σ H _ _ v u Q I rx ry ⟨p, k, xs, rfl, rfl, hp, fun z => h1 (by rw [z] at hd; cases hd; rfl), by omega, h3, by rw [hd.length]; exact h4, fun l nl => q _ _ (Al.new nl) (Dr.newT nl (hd.rep _))⟩
  · rename_i ds k
    obtain ⟨⟨h1, h2, h3⟩, hg⟩ := Option.ite_none_right_eq_some.mp hg
    cases hg
    obtain rfl := hy.i.int
    obtain ⟨p, xs, rfl, hp, hd⟩ := hx.i.lst
    refine op_rep pins s σ H _ _ v u Q I rx ry ⟨p, k, xs, rfl, rfl, hp, by omega, by omega, ?_, fun l nl => q _ _ (Al.new nl) (Dr.newL hS nl (hd.rep _))⟩
    rw [hd.length, sizeLine_eq]
    have : ds.length * k.toNat ≤ 1000 * 1000 := Nat.mul_le_mul h3 (by omega)
    omega
  · cases hg
end

/-! ### len(set(..)) -/
section
variable {K : PySem.W.Frag} {S : Addr → Prop} {H : Hp}
theorem intL_of : ∀ {ds : List PyData} {ns : List Int} {vs : List V}, intL ds = some ns → Drs K S H vs ds → vs = ns.map V.int
  | [], _, _, e, h => by
    cases h
    cases e
    rfl
  | d :: ds, _, _, e, h => by
    cases h with
    | cons h1 h2 =>
      cases d with
      | int i =>
        unfold intL at e
        simp only [Option.map_eq_some_iff] at e
        obtain ⟨r, e, rfl⟩ := e
        cases h1
        rw [intL_of e h2]
        rfl
      | _ => cases e
theorem intTs_of : ∀ {ds : List PyData} {l : List (List Int)} {vs : List V}, intTs ds = some l → Drs K S H vs ds → ∃ ks : List (Addr × List Int), vs = ks.map (fun p => V.ref p.1) ∧ (∀ p ∈ ks, SqT K H p.1 (p.2.map V.int)) ∧ ks.map (·.2) = l
  | [], _, _, e, h => by
    cases h
    cases e
    exact ⟨[], rfl, fun _ h => (by cases h), rfl⟩
  | d :: ds, _, _, e, h => by
    cases h with
    | cons h1 h2 =>
      cases d with
      | tuple l =>
        unfold intTs at e
        split at e
        · rename_i x xs e1 e2
          cases e
          cases h1 with
          | tup ht hd =>
            obtain ⟨ks, r1, r2, r3⟩ := intTs_of e2 h2
            have := intL_of e1 hd
            subst this
            rename_i a
            refine ⟨(a, x) :: ks, by rw [r1]; rfl, fun p hp => ?_, by rw [List.map_cons, r3]⟩
            rcases List.mem_cons.mp hp with rfl | hp
            · exact ht
            · exact r2 p hp
        · cases e
      | _ => cases e
theorem mem_once (x : List Int) : ∀ l : List (List Int), x ∈ once l ↔ x ∈ l
  | [] => Iff.rfl
  | y :: l => by
    unfold once
    split
    · rw [mem_once x l, List.mem_cons]
      exact ⟨.inr, fun h => h.elim (fun e => by rw [e]; assumption) id⟩
    · rw [List.mem_cons, List.mem_cons, mem_once x l]
theorem nodup_once : ∀ l : List (List Int), (once l).Nodup
  | [] => List.nodup_nil
  | y :: l => by
    unfold once
    split
    · exact nodup_once l
    · rename_i h
      exact List.nodup_cons.mpr ⟨fun z => h ((mem_once y l).mp z), nodup_once l⟩
end
section
variable {X : Cx} {τ : Tn} {B : Addr → Prop} {E : XK} {md : Bool} {pos : Pos}
theorem len_setT : CallR X (.builtin "len") (fun vs H Q => ∃ a L, vs = [.ref a] ∧ H a = some (SetTO X.prog X.w a L) ∧ ((L.map (·.2)).Nodup → L.length < 64 → Q (.int L.length) H)) := by
  intro pins s σ H vs us Q I r ⟨a, L, e, hH, q⟩
  subst e
  rw [Vals.ref1 r]
  obtain ⟨⟨es, ep, t, ⟨o, ho, hex, hd⟩, h2, h3, h4, h5, h6, h7, h8⟩, _⟩ := I.hok a _ hH
  have hn : es.size = L.length := by
    have := congrArg List.length h2
    unfold rowsOf at this
    rw [Array.length_toList, List.length_map] at this
    exact this
  refine call_len_set ho hex hd ?_ (by omega) ⟨.int L.length, H, I.tok _, ⟨_, by rw [hn]⟩, q h4 h8⟩
  have hs := h3.sz
  have hdm := h3.dm
  rw [List.length_map] at hs
  unfold SetTable.fits SetTable.fill
  simp [hs, hdm, hn]
  omega
theorem sn_lset {e : Expr} {p p2 q : Pos} {m : Env → M D} (g : Gd X) (hg : Gl X "len") (hm : X.mg "len" = none) (hg2 : Gl X "set") (hm2 : X.mg "set" = none) (h : PE X e (tD (arOf X τ B E) false m)) (ns : starred e = false) :
    PE X (.Call (.Name "len" p) [.Call (.Name "set" p2) [e] [] q] [] pos) (tD (arOf X τ B E) md fun env => do let x ← m env; M.of (opLset x)) := by
  have h1 := pe_callTy (pos := q) (p := p2) (cr_setOfT g.calm g.un) hg2 hm2 (by decide +kernel) (sn_one h ns) (by decide) (by decide) (star1 ns) rfl
  refine (pe_callB len_setT hg hm PySem.boot_len (pa_cons h1 pa_nil rfl) (by decide) (by decide) rfl rfl).imp fun σ H Q ⟨env, s, R, t, h⟩ => ?_
  refine ⟨env, s, R, t, h.bnd.imp fun x s1 H1 e1 t1 h1 v dv => ?_⟩
  obtain ⟨d, ed, h2⟩ := h1.of
  unfold opLset at ed
  split at ed
  · rename_i ds
    obtain ⟨hl, ed⟩ := Option.ite_none_right_eq_some.mp ed
    simp only [Option.map_eq_some_iff] at ed
    obtain ⟨l, el, rfl⟩ := ed
    obtain ⟨a, xs, rfl, hx, hd⟩ := dv.i.lst
    obtain ⟨ks, rfl, k2, k3⟩ := intTs_of el hd
    refine ⟨a, ks, rfl, SqL.of hx, k2, ?_, fun b L nb s1 s2 => ?_⟩
    · have := hd.length
      rw [List.length_map] at this
      omega
    · refine ⟨b, L, rfl, upd_same, fun nd _ => ?_⟩
      have e : L.length = (once l).length := by
        rw [← List.length_map (as := L) (f := fun p => p.2)]
        refine List.Perm.length_eq ((List.perm_ext_iff_of_nodup nd (nodup_once l)).mpr fun z => ?_)
        rw [mem_once, ← k3]
        constructor
        · intro hz
          obtain ⟨p, hp, rfl⟩ := List.mem_map.mp hz
          exact List.mem_map.mpr ⟨p, s1 p hp, rfl⟩
        · intro hz
          obtain ⟨p, hp, rfl⟩ := List.mem_map.mp hz
          exact s2 p hp
      rw [e]
      exact h2 _ (Al.new nb).xt ((Al.new nb).town t1) _ (Dv.weak (d := .dat _) (.int _))
  · cases ed
end
end BK
set_option Elab.async false
set_option linter.all false
set_option maxRecDepth 100000
set_option maxHeartbeats 4000000
/-! The small language says the truth: expressions, all. -/
namespace BK
open PySem L2
theorem M.assoc {α β γ : Type} (x : M α) (f : α → M β) (g : β → M γ) : M.bnd (M.bnd x f) g = M.bnd x fun a => M.bnd (f a) g := by
  funext s
  unfold M.bnd
  cases x s <;> rfl
theorem M.left {α β : Type} (a : α) (f : α → M β) : M.bnd (M.ret a) f = f a := rfl
theorem M.right {α : Type} (x : M α) : M.bnd x M.ret = x := by
  funext s
  unfold M.bnd
  cases x s <;> rfl
section
variable {nm : Nm} {Gs : Nat → List Int → Fun} {CX : CXT}
variable {X : Cx} {τ : Tn} {B : Addr → Prop} {E : XK} {md : Bool} {pos : Pos}
abbrev GG (Gs : Nat → List Int → Fun) (τ : Tn) : Nat → Fun := fun i => Gs i τ.scr
/-- the two readings of an expression -/
structure Both (Gs : Nat → List Int → Fun) (X : Cx) (τ : Tn) (B : Addr → Prop) (E : XK) (c : CE) (e : Expr) : Prop where
  v : ∀ md, PE X e (tD (arOf X τ B E) md (ev (GG Gs τ) md c))
  t : noIte c = true → PT X e (tT (arOf X τ B E) fun env => do truth (← ev (GG Gs τ) true c env))
structure Many (Gs : Nat → List Int → Fun) (X : Cx) (τ : Tn) (B : Addr → Prop) (E : XK) (es : CEs) (l : List Expr) : Prop where
  a : PA X l (tA (arOf X τ B E) (evs (GG Gs τ) es))
  an : l ≠ [] → ∀ pos md, PE X (.BoolOp .And l pos) (tD (arOf X τ B E) md fun env => do let r ← evAnd (GG Gs τ) es env; M.ret (bl r))
  or : l ≠ [] → ∀ pos md, PE X (.BoolOp .Or l pos) (tD (arOf X τ B E) md fun env => do let r ← evOr (GG Gs τ) es env; M.ret (bl r))
  anT : l ≠ [] → noItes es = true → ∀ pos, PW X (.BoolOp .And l pos) (tT (arOf X τ B E) (evAnd (GG Gs τ) es))
  orT : l ≠ [] → noItes es = true → ∀ pos, PW X (.BoolOp .Or l pos) (tT (arOf X τ B E) (evOr (GG Gs τ) es))
/-- a reading by another word -/
theorem pt_eq {e : Expr} {m m' : Env → M Bool} (h : PT X e (tT (arOf X τ B E) m)) (he : ∀ env, m' env = m env) : PT X e (tT (arOf X τ B E) m') := by
  have : m' = m := funext he
  rw [this]
  exact h
theorem pe_eq {e : Expr} {m m' : Env → M D} (h : PE X e (tD (arOf X τ B E) md m)) (he : ∀ env, m' env = m env) : PE X e (tD (arOf X τ B E) md m') := by
  have : m' = m := funext he
  rw [this]
  exact h
theorem tru_bl (b : Bool) : truth (bl b) = M.ret b := rfl
/-- both, where a test is the value's truth -/
theorem Both.of {c : CE} {e : Expr} (h : ∀ md, PE X e (tD (arOf X τ B E) md (ev (GG Gs τ) md c))) (he : ∀ whole, isTrue e X.env whole = (do let v ← whole; standAt e.pos; holding [v] (truthy v))) : Both Gs X τ B E c e := ⟨h, fun _ => sn_tt (h true) he⟩
theorem sn_isNT {e : Expr} {m : Env → M D} {k : Nat} {p : Pos} (h : PE X e (tD (arOf X τ B E) false m)) : PT X (.Compare e [.Is] [.Constant .none k p] pos) (tT (arOf X τ B E) fun env => do let x ← datOf (← m env); M.ret (isNon x)) := by
  refine (pt_cmp (pc_isN h)).imp fun σ H Q ⟨env, s, R, t, h⟩ => ?_
  refine ⟨env, s, R, t, h.bnd.imp fun x s1 H1 e1 t1 h1 v dv => ?_⟩
  obtain ⟨i, rfl, h2⟩ := h1.bnd.dat
  rw [non_iff dv.i]
  exact ⟨_, rfl, (h2 H1 (Xt.refl H1) t1).ret H1 (Xt.refl H1) t1⟩
theorem sn_notNT {e : Expr} {m : Env → M D} {k : Nat} {p : Pos} (h : PE X e (tD (arOf X τ B E) false m)) : PT X (.Compare e [.IsNot] [.Constant .none k p] pos) (tT (arOf X τ B E) fun env => do let x ← datOf (← m env); M.ret (!isNon x)) := by
  refine (pt_cmp (pc_notN h)).imp fun σ H Q ⟨env, s, R, t, h⟩ => ?_
  refine ⟨env, s, R, t, h.bnd.imp fun x s1 H1 e1 t1 h1 v dv => ?_⟩
  obtain ⟨i, rfl, h2⟩ := h1.bnd.dat
  rw [non_iff dv.i]
  exact ⟨_, rfl, (h2 H1 (Xt.refl H1) t1).ret H1 (Xt.refl H1) t1⟩
theorem sn_chnT {x y z : Expr} {m1 m2 m3 : Env → M D} (h1 : PE X x (tD (arOf X τ B E) false m1)) (h2 : PE X y (tD (arOf X τ B E) false m2)) (h3 : PE X z (tD (arOf X τ B E) false m3)) :
    PT X (.Compare x [.LtE, .LtE] [y, z] pos) (tT (arOf X τ B E) fun env => do
      let x ← intOf (← m1 env)
      let y ← intOf (← m2 env)
      if x ≤ y then
        let z ← intOf (← m3 env)
        M.ret (decide (y ≤ z))
      else M.ret false) := by
  refine (pt_chain op_le op_le h1 h2 h3 (hm := nomark (op := .LtE) z)).imp fun σ H Q ⟨env, s, R, t, h⟩ => ?_
  refine ⟨env, s, R, t, h.bnd.imp fun x s1 H1 e1 t1 h1 v dv => ?_⟩
  obtain ⟨i, rfl, k1⟩ := h1.bnd.int
  obtain rfl := dv.i.int
  refine ⟨env, s1, R.xt t e1, t1, (k1 H1 (Xt.refl H1) t1).bnd.imp fun y s2 H2 e2 t2 h2 u du => ?_⟩
  obtain ⟨j, rfl, k2⟩ := h2.bnd.int
  obtain rfl := du.i.int
  refine ⟨i, j, rfl, rfl, decide (i ≤ j), rfl, ?_⟩
  rcases (k2 H2 (Xt.refl H2) t2).iff with ⟨hc, h3⟩ | ⟨hc, h3⟩
  · rw [if_pos (decide_eq_true hc)]
    refine ⟨env, s2, (R.xt t e1).xt t1 e2, t2, h3.bnd.imp fun z s3 H3 e3 t3 h3 w' dw => ?_⟩
    obtain ⟨k, rfl, k3⟩ := h3.bnd.int
    obtain rfl := dw.i.int
    exact ⟨j, k, rfl, rfl, _, rfl, (k3 H3 (Xt.refl H3) t3).ret H3 (Xt.refl H3) t3⟩
  · rw [if_neg (by rw [decide_eq_false hc]; exact Bool.false_ne_true)]
    exact ⟨_, rfl, h3.ret H2 (Xt.refl H2) t2⟩
theorem nomark' (b : Expr) {op : CmpOp} (h : ∀ l k p, b ≠ .Set l k p) : behindInMarks op b = false := by
  cases b <;> first
    | rfl
    | exact absurd rfl (h _ _ _)
theorem ck_nset {sc : Scope} {c : CE} {e : Expr} (h : ck nm sc c e = true) : ∀ l k p, e ≠ .Set l k p := fun l k p z => by
  rw [z, ck_set] at h
  cases h
theorem boC {o : BO} {op : Operator} (g : Gd X) (h : boOk o op = true) : OpR X (binaryOp op) (rB X.prog X.w X.K τ (opBin o)) := by
  cases o <;> cases op <;> first
    | (cases h; done)
    | exact ob_add
    | exact ob_sub
    | exact ob_mod
    | exact ob_fdiv
    | exact ob_mul
theorem coC {o : CO} {op : CmpOp} (g : Gd X) (h : coOk o op = true) : OpR X (compareOp op) (rC X.prog X.w X.K τ (opCmp o)) := by
  cases o <;> cases op <;> first
    | (cases h; done)
    | exact oc_eq g
    | exact oc_ne g
    | exact oc_lt g
    | exact oc_le g
    | exact oc_gt
    | exact oc_ge
    | exact oc_in g
    | exact oc_notin g
theorem cst_ok {d : PyData} {c : Const} {k : Nat} (h : constOk d c = true) : PE X (.Constant c k pos) (tD (arOf X τ B E) md fun _ => M.ret (.dat d)) := by
  unfold constOk at h
  split at h
  · exact sn_val pe_non fun _ _ => Dr.non
  · have h := eq_of_beq h
    subst h
    exact sn_val pe_bl fun _ _ => Dr.bl _
  · have h := eq_of_beq h
    subst h
    exact sn_val pe_int fun _ _ => Dr.int _
  · have h := eq_of_beq h
    subst h
    exact sn_val pe_str fun _ _ => Dr.str _
  · cases h
theorem p1_ok (g : Gd X) (hb : ∀ x, x ∈ biNames → X.mg x = none) {p : P1} {x : Expr} {m : Env → M D} {pp : Pos} (hg : X.env.scope.names.lookup p.nm = some .globalImplicit) (h : PE X x (tD (arOf X τ B E) false m)) (ns : starred x = false) :
    PE X (.Call (.Name p.nm pp) [x] [] pos) (tD (arOf X τ B E) md fun env => do let x ← m env; M.of (opP1 p x)) := by
  cases p with
  | len => exact sn_p1 cq_len hg (hb _ (by decide)) PySem.boot_len (by decide) (by decide) h ns
  | all => exact sn_p1 (cq_all g) hg (hb _ (by decide)) (by decide +kernel) (by decide) (by decide) h ns
  | tuple => exact sn_p1T cq_tuple hg (hb _ (by decide)) (by decide +kernel) (by decide) (by decide) h ns
  | list => exact sn_p1T cq_list hg (hb _ (by decide)) (by decide +kernel) (by decide) (by decide) h ns
  | sorted => exact sn_p1 (cq_sorted g) hg (hb _ (by decide)) (by decide +kernel) (by decide) (by decide) h ns
  | min => exact sn_p1 (cq_min g) hg (hb _ (by decide)) (by decide +kernel) (by decide) (by decide) h ns
  | str => exact sn_p1T cq_str hg (hb _ (by decide)) (by decide +kernel) (by decide) (by decide) h ns
  | int => exact sn_p1T cq_int hg (hb _ (by decide)) (by decide +kernel) (by decide) (by decide) h ns
end

section
variable {nm : Nm} {Gs : Nat → List Int → Fun} {CX : CXT}
/-- the text of a comprehension, its parts known -/
theorem lc_parts {X : Cx} {τ : Tn} {B : Addr → Prop} {E : XK} (F : Fx nm Gs CX X τ E) {scope : Scope} {tg : Tg} {t : Expr} {elt : Expr} {celt : CE} (hT : ckTg nm (blkFn scope) (relS scope X.env.scope) tg t = true)
    (he : ∀ (X' : Cx) (B' : Addr → Prop) (E' : XK), Fx nm Gs CX X' τ E' → X'.env.scope = relS scope X.env.scope → Both Gs X' τ B' E' celt elt) :
    (∀ (s : Shared) (H : Hp) (C : Addr) (cl : List (Str × Addr)) (fp : List Addr), PG (X.blk s H scope (compEnvC scope cl C X.env) fp) t (tGx (arOf X τ B fun _ _ _ => False) tg)) ∧
    (∀ (s : Shared) (H : Hp) (C : Addr) (cl : List (Str × Addr)) (fp : List Addr), PE (X.blk s H scope (compEnvC scope cl C X.env) fp) elt (tDx (arOf X τ B fun _ _ _ => False) (ev (GG Gs τ) true celt))) := by
  refine ⟨fun s H C cl fp => ⟨fun pins s' σ H' v u Q I r hq => ?_⟩, fun s H C cl fp => ⟨fun pins s' σ H' Q I hq => ?_⟩⟩
  · obtain ⟨B', hq⟩ := hq
    have F' := F.blk s H scope (compEnvC scope cl C X.env) fp
    exact (sn_tg (X := X.blk s H scope (compEnvC scope cl C X.env) fp) (τ := τ) (B := B') (E := fun _ _ _ => False) (nm := nm) (fnb := blkFn scope) F'.gd F'.N (fun x hx => hx) tg t hT).run pins s' σ H' v u Q I r hq
  · obtain ⟨B', hq⟩ := hq
    have F' := F.blk s H scope (compEnvC scope cl C X.env) fp
    exact ((he _ B' _ F' rfl).v true).run pins s' σ H' Q I hq
theorem lc_cond {X : Cx} {τ : Tn} {B : Addr → Prop} {E : XK} (F : Fx nm Gs CX X τ E) {scope : Scope} {cond : Expr} {ccond : CE} (hn : noIte ccond = true)
    (he : ∀ (X' : Cx) (B' : Addr → Prop) (E' : XK), Fx nm Gs CX X' τ E' → X'.env.scope = relS scope X.env.scope → Both Gs X' τ B' E' ccond cond) :
    ∀ (s : Shared) (H : Hp) (C : Addr) (cl : List (Str × Addr)) (fp : List Addr), PTs (X.blk s H scope (compEnvC scope cl C X.env) fp) [cond] (tTx (arOf X τ B fun _ _ _ => False) fun env => do truth (← ev (GG Gs τ) true ccond env)) := by
  intro s H C cl fp
  refine pts_one ⟨fun pins s' σ H' Q I hq => ?_⟩
  obtain ⟨B', hq⟩ := hq
  have F' := F.blk s H scope (compEnvC scope cl C X.env) fp
  exact ((he _ B' _ F' rfl).t hn).run pins s' σ H' Q I hq
theorem lc_yes {X : Cx} {τ : Tn} {B : Addr → Prop} {scope : Scope} : ∀ (s : Shared) (H : Hp) (C : Addr) (cl : List (Str × Addr)) (fp : List Addr), PTs (X.blk s H scope (compEnvC scope cl C X.env) fp) [] (tTx (arOf X τ B fun _ _ _ => False) fun _ => M.ret true) := by
  intro s H C cl fp
  refine ⟨fun pins s' σ H' Q I hq => pts_nil.run pins s' σ H' Q I ?_⟩
  obtain ⟨B', env, s, R, t, h⟩ := hq
  exact h H' (Xt.refl H') t
end

theorem lcIf_ev {G : Nat → Fun} {md : Bool} {own : List Nat} {tg : Tg} {it : CI} {cond elt : CE} {env : Env} : ev G md (.lcIf own tg it cond elt) env = (do
    let xs ← evI G false it env
    if ownFree env own then
      let r ← lcGo (turnOf own tg (fun env => do truth (← ev G true cond env)) (ev G true elt) env) xs
      if fits r then M.ret (lst r) else M.non
    else M.non) := by
  have he : ∀ x, (M.nox (M.bnd (M.of (bindTg tg x (wipeE env own))) fun e => M.bnd (ev G true cond e) fun r => M.bnd (truth r) fun b => if b = true then (do let y ← datOf (← ev G true elt e); M.ret (some y)) else M.ret none)) = turnOf own tg (fun env => do truth (← ev G true cond env)) (ev G true elt) env x := by
    intro x
    show _ = M.nox (M.bnd (M.of (bindTg tg x (wipeE env own))) fun e => M.bnd (M.bnd _ fun r => truth r) fun b => _)
    simp only [M.assoc]
  show (M.bnd (evI G false it env) fun xs => if ownFree env own = true then (M.bnd (lcGo (fun x => (M.nox (M.bnd (M.of (bindTg tg x (wipeE env own))) fun e => M.bnd (ev G true cond e) fun r => M.bnd (truth r) fun b => if b = true then (do let y ← datOf (← ev G true elt e); M.ret (some y)) else M.ret none))) xs) _) else M.non) = _
  simp only [he]
  rfl
section
variable {nm : Nm} {Gs : Nat → List Int → Fun} {CX : CXT}
mutual
theorem snE : ∀ (c : CE) (X : Cx) (τ : Tn) (B : Addr → Prop) (E : XK), Fx nm Gs CX X τ E → ∀ e, ck nm X.env.scope c e = true → Both Gs X τ B E c e
  | .cst d, X, τ, B, E, F, e, h => by
    simp only [ck] at h; split at h <;> try (cases h; done)
    exact .of (fun md => cst_ok h) (fun _ => rfl)
  | .gcon x d, X, τ, B, E, F, e, h => by
    simp only [ck] at h; split at h <;> try (cases h; done)
    simp only [Bool.and_eq_true, beq_iff_eq] at h
    obtain ⟨⟨⟨rfl, h1⟩, h2⟩, h3⟩ := h
    split at h3 <;> try (cases h3; done)
    rename_i d' hd
    have h3 := sameD_eq _ _ h3
    subst h3
    obtain ⟨v, ⟨u, hu, ru⟩, hv⟩ := F.cn _ _ hd
    exact .of (fun md => sn_val (pe_glob (show Gl X _ from glB_of h1) hu ru (dbg_of h2).1) fun S H => hv S H) (fun _ => rfl)
  | .fnc i, X, τ, B, E, F, e, h => by
    simp only [ck] at h; split at h <;> try (cases h; done)
    simp only [Bool.and_eq_true, beq_iff_eq] at h
    obtain ⟨⟨h1, h2⟩, h3⟩ := h
    exact .of (fun md => sn_val (pe_glob (v := .ref (τ.fa i)) (show Gl X _ from glB_of h1) (F.fn _ _ h3).mg rfl (dbg_of h2).1) fun S H => rfl) (fun _ => rfl)
  | .var i, X, τ, B, E, F, e, h => by
    simp only [ck] at h; split at h <;> try (cases h; done)
    simp only [Bool.and_eq_true, beq_iff_eq] at h
    obtain ⟨⟨h1, h2⟩, h3⟩ := h
    exact .of (fun md => sn_var (by rw [F.N]; exact h1) (visB_of h2) (dbg_of h3).1 (dbg_of h3).2 _) (fun _ => rfl)
  | .tup es, X, τ, B, E, F, e, h => by
    simp only [ck] at h; split at h <;> try (cases h; done)
    exact .of (fun md => sn_tup (snEs es X τ B E F _ h).a) (fun _ => rfl)
  | .lst es, X, τ, B, E, F, e, h => by
    simp only [ck] at h; split at h <;> try (cases h; done)
    exact .of (fun md => sn_lst (snEs es X τ B E F _ h).a) (fun _ => rfl)
  | .bin o a b, X, τ, B, E, F, e, h => by
    simp only [ck] at h; split at h <;> try (cases h; done)
    simp only [Bool.and_eq_true] at h
    obtain ⟨⟨h1, h2⟩, h3⟩ := h
    exact .of (fun md => sn_bin (boC F.gd h1) ((snE a X τ B E F _ h2).v false) ((snE b X τ B E F _ h3).v false)) (fun _ => rfl)
  | .neg a, X, τ, B, E, F, e, h => by
    simp only [ck] at h; split at h <;> try (cases h; done)
    exact .of (fun md => sn_neg ((snE a X τ B E F _ h).v false)) (fun _ => rfl)
  | .cmp o a b, X, τ, B, E, F, e, h => by
    simp only [ck] at h; split at h <;> try (cases h; done)
    simp only [Bool.and_eq_true] at h
    obtain ⟨⟨h1, h2⟩, h3⟩ := h
    refine ⟨fun md => sn_cmp (coC F.gd h1) ((snE a X τ B E F _ h2).v false) ((snE b X τ B E F _ h3).v false) (nomark' _ (ck_nset h3)), fun _ => ?_⟩
    refine pt_eq (sn_cmpT (coC F.gd h1) ((snE a X τ B E F _ h2).v false) ((snE b X τ B E F _ h3).v false) (nomark' _ (ck_nset h3))) fun env => ?_
    show M.bnd (M.bnd _ fun x => M.bnd _ fun y => M.bnd _ fun r => M.ret (bl r)) truth = M.bnd _ fun x => M.bnd _ fun y => _
    simp only [M.assoc, M.left, tru_bl, M.right]
  | .isN a, X, τ, B, E, F, e, h => by
    simp only [ck] at h; split at h <;> try (cases h; done)
    refine ⟨fun md => sn_isN ((snE a X τ B E F _ h).v false), fun _ => pt_eq (sn_isNT ((snE a X τ B E F _ h).v false)) fun env => ?_⟩
    show M.bnd (M.bnd _ fun x => M.bnd _ fun y => M.ret _) truth = M.bnd _ fun x => M.bnd _ fun y => M.ret _
    simp only [M.assoc, M.left, tru_bl]
  | .notN a, X, τ, B, E, F, e, h => by
    simp only [ck] at h; split at h <;> try (cases h; done)
    refine ⟨fun md => sn_notN ((snE a X τ B E F _ h).v false), fun _ => pt_eq (sn_notNT ((snE a X τ B E F _ h).v false)) fun env => ?_⟩
    show M.bnd (M.bnd _ fun x => M.bnd _ fun y => M.ret _) truth = M.bnd _ fun x => M.bnd _ fun y => M.ret _
    simp only [M.assoc, M.left, tru_bl]
  | .chn a b c, X, τ, B, E, F, e, h => by
    simp only [ck] at h; split at h <;> try (cases h; done)
    simp only [Bool.and_eq_true] at h
    obtain ⟨⟨h1, h2⟩, h3⟩ := h
    have k1 := (snE a X τ B E F _ h1).v false
    have k2 := (snE b X τ B E F _ h2).v false
    have k3 := (snE c X τ B E F _ h3).v false
    refine ⟨fun md => sn_chn k1 k2 k3, fun _ => pt_eq (sn_chnT k1 k2 k3) fun env => ?_⟩
    funext s
    show M.bnd (M.bnd _ fun x => M.bnd _ fun x => M.bnd _ fun y => M.bnd _ fun y => if x ≤ y then (M.bnd _ fun z => M.bnd _ fun z => M.ret _) else M.ret _) truth s = (M.bnd _ fun x => M.bnd _ fun x => M.bnd _ fun y => M.bnd _ fun y => if x ≤ y then (M.bnd _ fun z => M.bnd _ fun z => M.ret _) else M.ret _) s
    simp only [M.assoc]
    congr 1
    congr 1; funext x
    congr 1; funext x
    congr 1; funext y
    congr 1; funext y
    by_cases hc : x ≤ y
    · rw [if_pos hc, if_pos hc]
      simp only [M.assoc, M.left, tru_bl]
    · rw [if_neg hc, if_neg hc]
      rfl
  | .and es, X, τ, B, E, F, e, h => by
    simp only [ck] at h; split at h <;> try (cases h; done)
    simp only [Bool.and_eq_true] at h
    obtain ⟨h1, h2⟩ := h
    have k := snEs es X τ B E F _ h1
    rename_i l pos
    have hl : l ≠ [] := fun z => by rw [z] at h2; cases h2
    refine ⟨fun md => k.an hl _ md, fun hn => pt_eq (k.anT hl hn _).pt fun env => ?_⟩
    show M.bnd (M.bnd _ fun r => M.ret (bl r)) truth = _
    simp only [M.assoc, M.left, tru_bl, M.right]
  | .or es, X, τ, B, E, F, e, h => by
    simp only [ck] at h; split at h <;> try (cases h; done)
    simp only [Bool.and_eq_true] at h
    obtain ⟨h1, h2⟩ := h
    have k := snEs es X τ B E F _ h1
    rename_i l pos
    have hl : l ≠ [] := fun z => by rw [z] at h2; cases h2
    refine ⟨fun md => k.or hl _ md, fun hn => pt_eq (k.orT hl hn _).pt fun env => ?_⟩
    show M.bnd (M.bnd _ fun r => M.ret (bl r)) truth = _
    simp only [M.assoc, M.left, tru_bl, M.right]
  | .not a, X, τ, B, E, F, e, h => by
    simp only [ck] at h; split at h <;> try (cases h; done)
    have k := snE a X τ B E F _ h
    refine ⟨fun md => sn_not (k.v true), fun hn => pt_eq (sn_notT (k.t hn)) fun env => ?_⟩
    show M.bnd (M.bnd _ fun x => M.bnd _ fun r => M.ret (bl !r)) truth = M.bnd (M.bnd _ fun x => _) fun r => M.ret !r
    simp only [M.assoc, M.left, tru_bl]
  | .ite c a b, X, τ, B, E, F, e, h => by
    simp only [ck] at h; split at h <;> try (cases h; done)
    simp only [Bool.and_eq_true] at h
    obtain ⟨⟨⟨h0, h1⟩, h2⟩, h3⟩ := h
    refine ⟨fun md => pe_eq (sn_ite ((snE c X τ B E F _ h1).t h0) ((snE a X τ B E F _ h2).v md) ((snE b X τ B E F _ h3).v md)) fun env => ?_, fun hn => absurd hn (by simp [noIte])⟩
    show M.bnd _ (fun x => M.bnd _ fun r => _) = M.bnd (M.bnd _ fun x => _) fun r => _
    simp only [M.assoc]
  | .idx a b, X, τ, B, E, F, e, h => by
    simp only [ck] at h; split at h <;> try (cases h; done)
    simp only [Bool.and_eq_true, Bool.not_eq_true'] at h
    obtain ⟨⟨h1, h2⟩, h3⟩ := h
    exact .of (fun md => sn_idx F.gd ((snE a X τ B E F _ h1).v false) ((snE b X τ B E F _ h2).v false) h3) (fun _ => rfl)
  | .slL a lo, X, τ, B, E, F, e, h => by
    simp only [ck] at h; split at h <;> try (cases h; done)
    simp only [Bool.and_eq_true] at h
    exact .of (fun md => sn_slL ((snE a X τ B E F _ h.1).v false) ((snE lo X τ B E F _ h.2).v false)) (fun _ => rfl)
  | .slH a hi, X, τ, B, E, F, e, h => by
    simp only [ck] at h; split at h <;> try (cases h; done)
    simp only [Bool.and_eq_true] at h
    exact .of (fun md => sn_slH ((snE a X τ B E F _ h.1).v false) ((snE hi X τ B E F _ h.2).v false)) (fun _ => rfl)
  | .sl2 a lo hi, X, τ, B, E, F, e, h => by
    simp only [ck] at h; split at h <;> try (cases h; done)
    simp only [Bool.and_eq_true] at h
    obtain ⟨⟨h1, h2⟩, h3⟩ := h
    exact .of (fun md => sn_sl2 ((snE a X τ B E F _ h1).v false) ((snE lo X τ B E F _ h2).v false) ((snE hi X τ B E F _ h3).v false)) (fun _ => rfl)
  | .slR a, X, τ, B, E, F, e, h => by simp [ck] at h
  | .lc own tg it elt, X, τ, B, E, F, e, h => by
    simp only [ck] at h; split at h <;> try (cases h; done)
    simp only [Bool.and_eq_true] at h
    obtain ⟨⟨⟨⟨h1, h2⟩, h3⟩, h4⟩, h5⟩ := h
    obtain ⟨p1, p2⟩ := lc_parts (B := B) (E := E) F h3 fun X' B' E' F' hs => snE elt X' τ B' E' F' _ (by rw [hs]; exact h5)
    exact .of (fun md => sn_lc (mt := fun _ => M.ret true) F.gd.calm F.gd.nd F.N (snI it X τ B E F _ _ h4 false) h1 h2 p1 lc_yes p2 (ckI_fold h4)) (fun _ => rfl)
  | .lcIf own tg it cond elt, X, τ, B, E, F, e, h => by
    simp only [ck] at h; split at h <;> try (cases h; done)
    simp only [Bool.and_eq_true] at h
    obtain ⟨⟨⟨⟨⟨⟨h1, h2⟩, h3⟩, h4⟩, h5⟩, h6⟩, h7⟩ := h
    obtain ⟨p1, p2⟩ := lc_parts (B := B) (E := E) F h3 fun X' B' E' F' hs => snE elt X' τ B' E' F' _ (by rw [hs]; exact h7)
    have p3 := lc_cond (B := B) (E := E) F h5 fun X' B' E' F' hs => snE cond X' τ B' E' F' _ (by rw [hs]; exact h6)
    exact .of (fun md => pe_eq (sn_lc (mt := fun env => do truth (← ev (GG Gs τ) true cond env)) F.gd.calm F.gd.nd F.N (snI it X τ B E F _ _ h4 false) h1 h2 p1 p3 p2 (ckI_fold h4)) fun env => lcIf_ev) (fun _ => rfl)
  | .call f es, X, τ, B, E, F, e, h => by
    simp only [ck] at h; split at h <;> try (cases h; done)
    simp only [Bool.and_eq_true, beq_iff_eq] at h
    obtain ⟨⟨⟨h1, h2⟩, h3⟩, h4⟩ := h
    rename_i x p l pos
    have k := snEs es X τ B E F _ h4
    cases l with
    | nil =>
      cases es with
      | nil => exact .of (fun md => sn_call0 (F.fn _ _ h3) F.K F.ps (show Gl X _ from glB_of h1) (dbg_of h2).1) (fun _ => rfl)
      | cons => simp [cks] at h4
    | cons y l => exact .of (fun md => sn_call (F.fn _ _ h3) F.K F.ps (show Gl X _ from glB_of h1) (dbg_of h2).1 k.a (cks_ns h4)) (fun _ => rfl)
  | .callv i es, X, τ, B, E, F, e, h => by simp [ck] at h
  | .p1 p a, X, τ, B, E, F, e, h => by
    simp only [ck] at h; split at h <;> try (cases h; done)
    simp only [Bool.and_eq_true] at h
    obtain ⟨h1, h2⟩ := h
    obtain ⟨q, rfl, hg⟩ := isNm_of h1
    exact .of (fun md => p1_ok F.gd F.bi hg ((snE a X τ B E F _ h2).v false) (ck_ns h2)) (fun _ => rfl)
  | .lrng a, X, τ, B, E, F, e, h => by
    simp only [ck] at h; split at h <;> try (cases h; done)
    simp only [Bool.and_eq_true] at h
    obtain ⟨⟨h1, h2⟩, h3⟩ := h
    obtain ⟨q, rfl, hg⟩ := isNm_of h1
    obtain ⟨q2, rfl, hg2⟩ := isNm_of h2
    exact .of (fun md => sn_lrng F.gd hg (F.bi _ (by decide)) hg2 (F.bi _ (by decide)) ((snE a X τ B E F _ h3).v false) (ck_ns h3)) (fun _ => rfl)
  | .trng a, X, τ, B, E, F, e, h => by
    simp only [ck] at h; split at h <;> try (cases h; done)
    simp only [Bool.and_eq_true] at h
    obtain ⟨⟨h1, h2⟩, h3⟩ := h
    obtain ⟨q, rfl, hg⟩ := isNm_of h1
    obtain ⟨q2, rfl, hg2⟩ := isNm_of h2
    exact .of (fun md => sn_trng F.gd hg (F.bi _ (by decide)) hg2 (F.bi _ (by decide)) ((snE a X τ B E F _ h3).v false) (ck_ns h3)) (fun _ => rfl)
  | .isi a t, X, τ, B, E, F, e, h => by
    simp only [ck] at h; split at h <;> try (cases h; done)
    simp only [Bool.and_eq_true] at h
    obtain ⟨⟨h1, h2⟩, h3⟩ := h
    obtain ⟨q, rfl, hg⟩ := isNm_of h1
    obtain ⟨q2, rfl, hg2⟩ := isNm_of h2
    exact .of (fun md => sn_isi hg (F.bi _ (by decide)) hg2 (F.bi _ (by cases t <;> decide)) ((snE a X τ B E F _ h3).v false) (ck_ns h3)) (fun _ => rfl)
  | .meth m a b, X, τ, B, E, F, e, h => by simp [ck] at h
  | .dget d k x, X, τ, B, E, F, e, h => by simp [ck] at h
  | .ssort a, X, τ, B, E, F, e, h => by simp [ck] at h
  | .lset a, X, τ, B, E, F, e, h => by
    simp only [ck] at h; split at h <;> try (cases h; done)
    simp only [Bool.and_eq_true] at h
    obtain ⟨⟨h1, h2⟩, h3⟩ := h
    obtain ⟨q, rfl, hg⟩ := isNm_of h1
    obtain ⟨q2, rfl, hg2⟩ := isNm_of h2
    exact .of (fun md => sn_lset F.gd hg (F.bi _ (by decide)) hg2 (F.bi _ (by decide)) ((snE a X τ B E F _ h3).v false) (ck_ns h3)) (fun _ => rfl)
  | .dke a, X, τ, B, E, F, e, h => by simp [ck] at h
  | .lenum a, X, τ, B, E, F, e, h => by simp [ck] at h
  | .dnew, X, τ, B, E, F, e, h => by simp [ck] at h
  | .done k v, X, τ, B, E, F, e, h => by simp [ck] at h
  | .res x, X, τ, B, E, F, e, h => by simp [ck] at h
theorem snEs : ∀ (es : CEs) (X : Cx) (τ : Tn) (B : Addr → Prop) (E : XK), Fx nm Gs CX X τ E → ∀ l, cks nm X.env.scope es l = true → Many Gs X τ B E es l
  | .nil, X, τ, B, E, F, l, h => by
    cases l with
    | nil => exact ⟨sn_nil, fun z => absurd rfl z, fun z => absurd rfl z, fun z => absurd rfl z, fun z => absurd rfl z⟩
    | cons => simp [cks] at h
  | .cons c r, X, τ, B, E, F, l, h => by
    cases l with
    | nil => simp [cks] at h
    | cons e l =>
      simp only [cks, Bool.and_eq_true] at h
      have k1 := snE c X τ B E F e h.1
      have k2 := snEs r X τ B E F l h.2
      refine ⟨sn_cons (k1.v true) k2.a (star1 (ck_ns h.1)), fun _ pos md => ?_, fun _ pos md => ?_, fun _ hn pos => ?_, fun _ hn pos => ?_⟩
      · cases l with
        | nil =>
          cases r with
          | nil => exact sn_and1 (k1.v true)
          | cons => simp [cks] at h
        | cons e2 l => exact sn_and (k1.v true) (k2.an (by simp) pos true)
      · cases l with
        | nil =>
          cases r with
          | nil => exact sn_or1 (k1.v true)
          | cons => simp [cks] at h
        | cons e2 l => exact sn_or (k1.v true) (k2.or (by simp) pos true)
      · simp only [noItes, Bool.and_eq_true] at hn
        have ht := k1.t hn.1
        cases l with
        | nil =>
          cases r with
          | nil =>
            have := sn_andT1 (pos := pos) ht
            refine ⟨fun wh pins s σ H Q I z => this.run wh pins s σ H Q I ?_⟩
            exact (by simpa only [evAnd, M.assoc, bind] using z)
          | cons => simp [cks] at h
        | cons e2 l =>
          have := sn_andT ht (k2.anT (by simp) hn.2 pos)
          refine ⟨fun wh pins s σ H Q I z => this.run wh pins s σ H Q I ?_⟩
          exact (by simpa only [evAnd, M.assoc, bind] using z)
      · simp only [noItes, Bool.and_eq_true] at hn
        have ht := k1.t hn.1
        cases l with
        | nil =>
          cases r with
          | nil =>
            have := sn_orT1 (pos := pos) ht
            refine ⟨fun wh pins s σ H Q I z => this.run wh pins s σ H Q I ?_⟩
            exact (by simpa only [evOr, M.assoc, bind] using z)
          | cons => simp [cks] at h
        | cons e2 l =>
          have := sn_orT ht (k2.orT (by simp) hn.2 pos)
          refine ⟨fun wh pins s σ H Q I z => this.run wh pins s σ H Q I ?_⟩
          exact (by simpa only [evOr, M.assoc, bind] using z)
theorem snI : ∀ (c : CI) (X : Cx) (τ : Tn) (B : Addr → Prop) (E : XK), Fx nm Gs CX X τ E → ∀ e t, ckI nm X.env.scope c e t = true → ∀ md, PI X t e (tI (arOf X τ B E) md (evI (GG Gs τ) md c))
  | .seq c, X, τ, B, E, F, e, t, h, md => by
    simp only [ckI] at h
    exact sn_seqI ((snE c X τ B E F _ h).v md)
  | .rng c, X, τ, B, E, F, e, t, h, md => by
    simp only [ckI] at h; split at h <;> try (cases h; done)
    simp only [Bool.and_eq_true] at h
    obtain ⟨q, rfl, hg⟩ := isNm_of h.1
    exact sn_rng hg (F.bi _ (by decide)) ((snE c X τ B E F _ h.2).v true) (ck_ns h.2)
  | .enum c, X, τ, B, E, F, e, t, h, md => by simp [ckI] at h
  | .zip a b, X, τ, B, E, F, e, t, h, md => by
    simp only [ckI] at h; split at h <;> try (cases h; done)
    simp only [Bool.and_eq_true] at h
    obtain ⟨⟨h1, h2⟩, h3⟩ := h
    obtain ⟨q, rfl, hg⟩ := isNm_of h1
    exact sn_zip hg (F.bi _ (by decide)) ((snE a X τ B E F _ h2).v true) ((snE b X τ B E F _ h3).v true) (ck_ns h2) (ck_ns h3)
  | .keys c, X, τ, B, E, F, e, t, h, md => by simp [ckI] at h
end
end
end BK
set_option Elab.async false
set_option linter.all false
set_option maxRecDepth 100000
set_option maxHeartbeats 4000000
/-! The small language says the truth: statements, defs. -/
namespace BK
open PySem L2
section
variable {X : Cx} {τ : Tn} {B : Addr → Prop} {E : XK} {pos : Pos}
/-! ### several names at once -/
theorem Pst.set2 {a : Ar} {env : Env} {σ : St} {H : Hp} {i j : Nat} {v u : V} {d e : D} (R : a.Rp env σ H) (dv : Dv a.P a.w a.K a.τ (Av a.B env σ) true H v d) (du : Dv a.P a.w a.K a.τ (Av a.B env σ) true H u e) : Pst a env σ H (setE (setE env i d) j e) ((σ.set i (some v)).set j (some u)) H := by
  have p := Pst.set (i := i) R dv
  exact p.trans (Pst.set p.rp (Dv.mono (fun b z => z.imp id fun z => (p.own b z).elim id fun n => absurd n (by
    obtain ⟨k, d', h1, h2⟩ := z
    obtain ⟨b', q1, _, q2, _⟩ := p.rp.own k d' h1
    rw [h2] at q1
    cases q1
    exact q2)) du))
theorem ss_par2 {i j : Nat} {x y : Str} {a b : Expr} {ms : Env → M (List D)} {px py pt : Pos} {kt k2 : Nat} {pt2 : Pos} (g : Gd X) (hi : X.N[i]? = some x) (hj : X.N[j]? = some y) (hij : i ≠ j)
    (hx : X.env.scope.names.lookup x = some .local) (hy : X.env.scope.names.lookup y = some .local) (ha : PA X [a, b] (tA (arOf X τ B E) ms))
    (hw : swappedStores [.Tuple [.Name x px, .Name y py] kt pt] (.Tuple [a, b] k2 pt2) X.env = pure (some [x, y])) :
    PS X (.Assign [.Tuple [.Name x px, .Name y py] kt pt] (.Tuple [a, b] k2 pt2) pos) (tS (arOf X τ B E) fun env => do let ds ← ms env; if ds.length = 2 then M.ret (.nx (parE [i, j] ds env)) else M.non) := by
  refine (ps_par g.calm g.nd hi hj hij hx hy ha hw rfl).imp fun D σ H ⟨env, s, R, t, h⟩ => ?_
  refine ⟨env, s, R, t, (SOk.ok R t h).imp fun ds s1 H1 e1 t1 q vs dvs => ?_⟩
  have R1 := R.xt t e1
  obtain ⟨hl, q⟩ := Wp.ifN q
  cases dvs with
  | nil => cases hl
  | cons d1 r1 =>
    cases r1 with
    | nil => cases hl
    | cons d2 r2 =>
      cases r2 with
      | cons => cases hl
      | nil => exact ⟨_, _, rfl, q _ H1 (Pst.set2 R1 d1 d2) t1⟩
theorem swp2 {x y : Str} {a b : Expr} {px py pt : Pos} {kt k2 : Nat} {pt2 : Pos} {env : PySem.Env} (hk : env.blockKind = .function) (hx : env.scope.names.lookup x = some .local) (hy : env.scope.names.lookup y = some .local) (hl : (px.line == py.line) = true) (hxy : (x == y) = false)
    (ha : starred a = false) (hb : starred b = false) (hf : ([a, b].all (foldedForSure 8)) = false) (hc : ([a, b].all (constantsAlone 8)) = false) :
    swappedStores [.Tuple [.Name x px, .Name y py] kt pt] (.Tuple [a, b] k2 pt2) env = pure (some [x, y]) := by
  have kx : env.kindOf x = some .local := hx
  have ky : env.kindOf y = some .local := hy
  have hl' : (py.line == px.line) = true := by rw [eq_of_beq hl]; exact beq_self_eq_true _
  have kb : (env.blockKind != .function) = false := by rw [hk]; rfl
  have hed : ([x, y] : List Str).eraseDups = [x, y] := by
    rw [List.eraseDups_cons, List.filter_cons]
    have : (!y == x) = true := by
      rw [Bool.not_eq_true', beq_eq_false_iff_ne]
      exact fun e => (beq_eq_false_iff_ne.mp hxy) e.symm
    rw [if_pos this]
    rfl
  have hpl : (py.line == px.line) = true := hl'
  unfold swappedStores
  dsimp only
  rw [kb]
  refine (if_neg (by simp)).trans ?_
  refine (if_neg (fun h => ?_)).trans ?_
  · rw [List.any_cons, List.any_cons, List.any_nil, Bool.or_eq_true, Bool.or_eq_true] at h
    rcases h with h | h | h
    · cases a <;> first
        | (cases ha; done)
        | (cases h; done)
    · cases b <;> first
        | (cases hb; done)
        | (cases h; done)
    · cases h
  generalize hn : List.filterMap _ [Expr.Name x px, Expr.Name y py] = l
  have hl2 : l = [x, y] := by
    rw [← hn]
    have h1 : (env.kindOf x == some NameKind.local && px.line == px.line) = true := by rw [kx]; simp
    have h2 : (env.kindOf y == some NameKind.local && py.line == px.line) = true := by rw [ky, hpl]; rfl
    refine (List.filterMap_cons_some (b := x) ?_).trans (congrArg (x :: ·) ((List.filterMap_cons_some (b := y) ?_).trans rfl))
    · show (if (env.kindOf x == some NameKind.local && px.line == px.line) = true then some x else none) = some x
      rw [if_pos h1]
    · show (if (env.kindOf y == some NameKind.local && py.line == px.line) = true then some y else none) = some y
      rw [if_pos h2]
  rw [hl2, hed]
  refine (if_neg (by simp)).trans ?_
  rw [hf, hc]
  rfl

/-! ### what is newly made -/
theorem sn_lstF {es : List Expr} {ms : Env → M (List D)} (h : PA X es (tA (arOf X τ B E) ms)) :
    PE X (.List es pos) (tDF (arOf X τ B E) fun env => do let ds ← ms env; let ds ← M.of (datL ds); if fits ds then M.ret (lst ds) else M.non) := by
  refine (pe_lst h).imp fun σ H Q ⟨env, s, R, t, h⟩ => ?_
  refine ⟨env, s, R, t, h.bnd.imp fun ds s1 H1 e1 t1 h1 vs dvs => ?_⟩
  obtain ⟨ps, ep, h2⟩ := h1.bnd.of
  obtain ⟨hf, h3⟩ := (h2 H1 (Xt.refl H1) t1).ifN
  have hd := datL_of ep dvs
  refine ⟨by rw [hd.length]; exact fits_of hf, fun p np => h3.ret _ (Al.new np).xt ((Al.new np).town t1) p (none_of e1 np) (by rw [upd_same]; simp) (Or.inr ⟨p, vs, ps, rfl, rfl, upd_same, (Al.new np).drs (Drs.shift (fun a z => z.imp id fun z => by rw [z]; exact np) _ _ hd)⟩)⟩
theorem sn_listF {e : Expr} {p : Pos} {m : Env → M D} (hg : Gl X "list") (hm : X.mg "list" = none) (h : PE X e (tD (arOf X τ B E) false m)) (ns : starred e = false) :
    PE X (.Call (.Name "list" p) [e] [] pos) (tDF (arOf X τ B E) fun env => do let x ← m env; M.of (opList x)) := by
  refine (pe_callTy call_list_of hg hm (by decide +kernel) (sn_one h ns) (by decide) (by decide) (star1 ns) rfl).imp fun σ H Q ⟨env, s, R, t, h⟩ => ?_
  refine ⟨env, s, R, t, h.bnd.imp fun x s1 H1 e1 t1 h1 v dv => ?_⟩
  obtain ⟨d, ed, h2⟩ := h1.of
  unfold opList at ed
  split at ed <;> try (cases ed; done)
  · cases ed
    obtain ⟨a, xs, rfl, hp, hd⟩ := dv.i.lst
    refine ⟨a, xs, rfl, .inl (SqL.of hp), fun l nl => h2 _ (Al.new nl).xt ((Al.new nl).town t1) l (none_of e1 nl) (by rw [upd_same]; simp) (Or.inr ⟨l, xs, _, rfl, rfl, upd_same, (Al.new nl).drs (Drs.shift (fun a z => z.imp id fun z => by rw [z]; exact nl) _ _ hd)⟩)⟩
  · cases ed
    obtain ⟨a, xs, rfl, hp, hd⟩ := dv.i.tup
    refine ⟨a, xs, rfl, .inr hp, fun l nl => h2 _ (Al.new nl).xt ((Al.new nl).town t1) l (none_of e1 nl) (by rw [upd_same]; simp) (Or.inr ⟨l, xs, _, rfl, rfl, upd_same, (Al.new nl).drs (Drs.shift (fun a z => z.imp id fun z => by rw [z]; exact nl) _ _ hd)⟩)⟩
end
section
variable {nm : Nm} {Gs : Nat → List Int → Fun} {CX : CXT}
def isFresh : CE → Bool
  | .lst _ => true
  | .lc .. => true
  | .p1 .list _ => true
  | _ => false
theorem snF {X : Cx} {τ : Tn} {B : Addr → Prop} {E : XK} (F : Fx nm Gs CX X τ E) {c : CE} {e : Expr} (hf : isFresh c = true) (h : ck nm X.env.scope c e = true) : PE X e (tDF (arOf X τ B E) (ev (GG Gs τ) true c)) := by
  unfold isFresh at hf
  split at hf
  · simp only [ck] at h; split at h <;> try (cases h; done)
    exact sn_lstF (snEs _ X τ B E F _ h).a
  · rename_i own tg it elt
    simp only [ck] at h; split at h <;> try (cases h; done)
    simp only [Bool.and_eq_true] at h
    obtain ⟨⟨⟨⟨h1, h2⟩, h3⟩, h4⟩, h5⟩ := h
    obtain ⟨p1, p2⟩ := lc_parts (B := B) (E := E) F h3 fun X' B' E' F' hs => snE elt X' τ B' E' F' _ (by rw [hs]; exact h5)
    exact sn_lcF (mt := fun _ => M.ret true) F.gd.calm F.gd.nd F.N (snI it X τ B E F _ _ h4 false) h1 h2 p1 lc_yes p2 (ckI_fold h4)
  · simp only [ck] at h; split at h <;> try (cases h; done)
    simp only [Bool.and_eq_true] at h
    obtain ⟨h1, h2⟩ := h
    obtain ⟨q, rfl, hg⟩ := isNm_of h1
    exact sn_listF hg (F.bi _ (by decide)) ((snE _ X τ B E F _ h2).v false) (ck_ns h2)
  · cases hf

/-! ### the text of statements -/
def notComp : Expr → Bool
  | .ListComp .. => false
  | .SetComp .. => false
  | .DictComp .. => false
  | _ => true
theorem notComp_sw {v : Expr} {t : Option Expr} {l : Nat} {env : PySem.Env} (h : notComp v = true) : swapsWith v t l env = pure false := by
  cases v <;> first
    | rfl
    | (cases h; done)
/-- a list comprehension that goes straight into its name -/
def swB (sc : Scope) : Expr → Str → Pos → Bool
  | .ListComp _ _ scope q, x, p => sc.names.lookup x == some .local && p.line == q.line && !(scope.names.any fun (n, k) => n == x && (k == .local || k == .cell))
  | _, _, _ => false
theorem swB_eq {v : Expr} {x : Str} {p : Pos} {l : Nat} {env : PySem.Env} (hk : env.blockKind = .function) (h : (match v with | .SetComp .. => false | .DictComp .. => false | _ => true) = true) : swapsWith v (some (.Name x p)) l env = pure (swB env.scope v x p) := by
  cases v <;> first
    | rfl
    | (cases h; done)
    | skip
  rename_i elt gs scope q
  unfold swapsWith swB
  simp only [hk]
  rfl
def notTup : Expr → Bool
  | .Tuple .. => false
  | _ => true
def isAt (x : Str) : Expr → Bool
  | .Attribute (.Name ..) n _ => n == x
  | _ => false
section
variable (nm : Nm) (sc : Scope)
mutual
def ckS : CS → Stmt → Bool
  | .asg tg e, st => (match tg, st with
    | .v i, .Assign [.Name x p] v _ => nm.N[i]? == some x && locB sc x && ck nm sc e v && (match v with | .SetComp .. => false | .DictComp .. => false | _ => true)
    | .t ts, .Assign [.Tuple es k p] v _ => ckTg nm (fun _ => true) sc (.t ts) (.Tuple es k p) && ck nm sc e v && notTup v && notComp v
    | _, _ => false)
  | .own i e, st => (match st with
    | .Assign [.Name x p] v _ => nm.N[i]? == some x && locB sc x && isFresh e && ck nm sc e v && (match v with | .SetComp .. => false | .DictComp .. => false | _ => true) && !swB sc v x p
    | _ => false)
  | .par is es, st => (match is, st with
    | [i, j], .Assign [.Tuple [.Name x px, .Name y py] _ _] (.Tuple [a, b] _ _) _ => nm.N[i]? == some x && nm.N[j]? == some y && !(i == j) && sc.names.lookup x == some .local && sc.names.lookup y == some .local && px.line == py.line && !(x == y) &&
      cks nm sc es [a, b] && !([a, b].all (foldedForSure 8)) && !([a, b].all (constantsAlone 8))
    | _, _ => false)
  | .sto i k e, st => (match st with
    | .Assign [.Subscript (.Name o _) kx _] v _ => nm.N[i]? == some o && visB sc o && notDbg o && ck nm sc k kx && !slicy kx && ck nm sc e v && notComp v && notTup v
    | _ => false)
  | .app i e, st => (match st with
    | .Expr (.Call (.Attribute (.Name o _) n ap) [v] [] cp) _ => n == ("append" : Str) && nm.N[i]? == some o && visB sc o && notDbg o && ap.endLine == cp.line && ck nm sc e v
    | _ => false)
  | .ext i e, st => (match st with
    | .Expr (.Call (.Attribute (.Name o _) n ap) [v] [] cp) _ => n == ("extend" : Str) && nm.N[i]? == some o && visB sc o && notDbg o && ap.endLine == cp.line && ck nm sc e v
    | _ => false)
  | .frz _, _ => false
  | .iff c a b, st => (match st with
    | .If t x y _ => noIte c && ck nm sc c t && ckSs a x && ckSs b y
    | _ => false)
  | .for tg it body, st => (match st with
    | .For t i b [] _ => ckTg nm (fun _ => true) sc tg t && ckI nm sc it i t && ckSs body b
    | _ => false)
  | .forF _ _ _, _ => false
  | .whl c body, st => (match st with
    | .While t b [] _ => noIte c && ck nm sc c t && ckSs body b
    | _ => false)
  | .ret e, st => (match st with
    | .Return (some v) _ => ck nm sc e v
    | _ => false)
  | .rai _, _ => false
  | .exp e, st => (match st with
    | .Expr v _ => ck nm sc e v && notComp v
    | _ => false)
  | .pass, st => (match st with
    | .Pass _ => true
    | _ => false)
  | .stk, _ => true
def ckSs : CSs → List Stmt → Bool
  | .nil, l => (match l with
    | [] => true
    | _ => false)
  | .cons s r, l => (match s with
    | .frz _ => ckSs r l
    | s => (match l with
      | st :: l => ckS s st && ckSs r l
      | [] => false))
end
end
end
end BK
set_option Elab.async false
set_option linter.all false
set_option maxRecDepth 100000
set_option maxHeartbeats 4000000
/-! The small language says the truth: statements, all; defs. -/
namespace BK
open PySem L2
/-- what holds around a body -/
structure Bx (X : Cx) : Prop where
  hk : X.env.blockKind = .function
  hp : PassesOwn (model X.prog X.w) X.A X.env X.xe
  hf : ∀ x, X.fn x = true
section
variable {nm : Nm} {Gs : Nat → List Int → Fun} {CX : CXT} {fu : Nat}
theorem frz_ex {env : Env} {is : List Nat} {m : Env → M Fl} : (do match ← ex (GG Gs τ) fu (.frz is) env with
    | .nx env' => m env'
    | .rt d => M.ret (.rt d)) = m (frzE env is) := rfl
theorem ss_frz {X : Cx} {τ : Tn} {B : Addr → Prop} {E : XK} {l : List Stmt} {is : List Nat} {m : Env → M Fl} (h : PSs X l (tS (arOf X τ B E) m)) : PSs X l (tS (arOf X τ B E) fun env => m (frzE env is)) := by
  refine h.imp fun D σ H ⟨env, s, R, t, q⟩ => ?_
  have p := Pst.frz R is
  exact ⟨frzE env is, s, p.rp, t, SOk.step p q⟩
theorem sole_of {v t : Expr} {l : Nat} {env : PySem.Env} (h : notComp v = true) : swapsWithSole [t] v l env = pure false := by
  unfold swapsWithSole
  exact notComp_sw h
mutual
theorem snS : ∀ (c : CS) (X : Cx) (τ : Tn) (B : Addr → Prop) (E : XK), Fx nm Gs CX X τ E → Bx X → ∀ st, ckS nm X.env.scope c st = true → PS X st (tS (arOf X τ B E) (ex (GG Gs τ) fu c))
  | .asg tg e, X, τ, B, E, F, b, st, h => by
    simp only [ckS] at h; split at h <;> try (cases h; done)
    · simp only [Bool.and_eq_true, beq_iff_eq] at h
      obtain ⟨⟨⟨h1, h2⟩, h3⟩, h4⟩ := h
      rename_i i x p v pos
      have hi : X.N[i]? = some x := by rw [F.N]; exact h1
      have sw := swB_eq (x := x) (p := p) (l := pos.line) b.hk h4
      cases hb : swB X.env.scope v x p with
      | false => exact ss_asg F.gd hi (locB_of h2) (.inl (b.hf x)) ((snE e X τ B E F v h3).v true) (by rw [sw, hb])
      | true =>
        rw [hb] at sw
        have hyl : X.env.scope.names.lookup x = some .local := by
          cases v <;> first
            | (cases hb; done)
            | skip
          unfold swB at hb
          simp only [Bool.and_eq_true, beq_iff_eq] at hb
          exact hb.1.1
        cases e <;> first
          | (simp only [ck] at h3; (split at h3 <;> try (cases h3; done)); cases hb; done)
          | (simp [ck] at h3; done)
          | skip
        · simp only [ck] at h3; split at h3 <;> try (cases h3; done)
          simp only [Bool.and_eq_true] at h3
          obtain ⟨⟨⟨⟨h1, h2⟩, h3⟩, h4⟩, h5⟩ := h3
          obtain ⟨p1, p2⟩ := lc_parts (B := B) (E := E) F h3 fun X' B' E' F' hs => snE _ X' τ B' E' F' _ (by rw [hs]; exact h5)
          exact ss_asgLc (mt := fun _ => M.ret true) F.gd F.N hi hyl sw (snI _ X τ B E F _ _ h4 false) h1 h2 p1 lc_yes p2 (ckI_fold h4)
        · simp only [ck] at h3; split at h3 <;> try (cases h3; done)
          simp only [Bool.and_eq_true] at h3
          obtain ⟨⟨⟨⟨⟨⟨h1, h2⟩, h3⟩, h4⟩, h5⟩, h6⟩, h7⟩ := h3
          obtain ⟨p1, p2⟩ := lc_parts (B := B) (E := E) F h3 fun X' B' E' F' hs => snE _ X' τ B' E' F' _ (by rw [hs]; exact h7)
          have p3 := lc_cond (B := B) (E := E) F h5 fun X' B' E' F' hs => snE _ X' τ B' E' F' _ (by rw [hs]; exact h6)
          have k := ss_asgLc F.gd F.N hi hyl sw (snI _ X τ B E F _ _ h4 false) h1 h2 p1 p3 p2 (ckI_fold h4)
          refine k.imp fun D σ H z => ?_
          obtain ⟨env, s, R, t, z⟩ := z
          refine ⟨env, s, R, t, ?_⟩
          simp only [ex, lcIf_ev] at z
          exact z
    · simp only [Bool.and_eq_true] at h
      obtain ⟨⟨⟨h1, h2⟩, h3⟩, h4⟩ := h
      rename_i ts es k p v pos
      have hg := sn_tg (τ := τ) (B := B) (E := E) (nm := nm) (fnb := fun _ => true) F.gd F.N (fun x _ => b.hf x) (.t ts) (.Tuple es k p) h1
      refine ss_asgT hg ((snE e X τ B E F v h2).v true) (sole_of h4) ?_ rfl
      cases v <;> first
        | rfl
        | (cases h3; done)
  | .own i e, X, τ, B, E, F, b, st, h => by
    simp only [ckS] at h; split at h <;> try (cases h; done)
    simp only [Bool.and_eq_true, beq_iff_eq, Bool.not_eq_true'] at h
    obtain ⟨⟨⟨⟨⟨h1, h2⟩, h3⟩, h4⟩, h5⟩, h6⟩ := h
    exact ss_own F.gd (by rw [F.N]; exact h1) (locB_of h2) (.inl (b.hf _)) (snF F h3 h4) (by rw [swB_eq b.hk h5, h6])
  | .par is es, X, τ, B, E, F, b, st, h => by
    simp only [ckS] at h; split at h <;> try (cases h; done)
    simp only [Bool.and_eq_true, beq_iff_eq, Bool.not_eq_true', beq_eq_false_iff_ne] at h
    obtain ⟨⟨⟨⟨⟨⟨⟨⟨⟨h1, h2⟩, h3⟩, h4⟩, h5⟩, h6⟩, h7⟩, h8⟩, h9⟩, h10⟩ := h
    have ns := cks_ns h8
    exact ss_par2 F.gd (by rw [F.N]; exact h1) (by rw [F.N]; exact h2) h3 h4 h5 (snEs es X τ B E F _ h8).a
      (swp2 b.hk h4 h5 (by rw [h6]; exact beq_self_eq_true _) (beq_eq_false_iff_ne.mpr h7) (ns _ (by simp)) (ns _ (by simp)) h9 h10)
  | .sto i k e, X, τ, B, E, F, b, st, h => by
    simp only [ckS] at h; split at h <;> try (cases h; done)
    simp only [Bool.and_eq_true, beq_iff_eq, Bool.not_eq_true'] at h
    obtain ⟨⟨⟨⟨⟨⟨⟨h1, h2⟩, h3⟩, h4⟩, h5⟩, h6⟩, h7⟩, h8⟩ := h
    rename_i o po kx p v pos
    refine ss_sto (by rw [F.N]; exact h1) (visB_of h2) (dbg_of h3).1 (dbg_of h3).2 ((snE e X τ B E F _ h6).v true) ((snE k X τ B E F _ h4).v true) (fun u => ?_) (sole_of h7) ?_
    · cases kx <;> first
        | rfl
        | (cases h5; done)
    · cases v <;> first
        | rfl
        | (cases h8; done)
  | .app i e, X, τ, B, E, F, b, st, h => by
    simp only [ckS] at h; split at h <;> try (cases h; done)
    simp only [Bool.and_eq_true, beq_iff_eq] at h
    obtain ⟨⟨⟨⟨⟨rfl, h1⟩, h2⟩, h3⟩, h4⟩, h5⟩ := h
    exact ss_app (by rw [F.N]; exact h1) (visB_of h2) (dbg_of h3).1 (dbg_of h3).2 ((snE e X τ B E F _ h5).v true) (ck_ns h5) (beq_iff_eq.mpr h4) rfl rfl
  | .ext i e, X, τ, B, E, F, b, st, h => by
    simp only [ckS] at h; split at h <;> try (cases h; done)
    simp only [Bool.and_eq_true, beq_iff_eq] at h
    obtain ⟨⟨⟨⟨⟨rfl, h1⟩, h2⟩, h3⟩, h4⟩, h5⟩ := h
    exact ss_ext (by rw [F.N]; exact h1) (visB_of h2) (dbg_of h3).1 (dbg_of h3).2 ((snE e X τ B E F _ h5).v true) (ck_ns h5) (beq_iff_eq.mpr h4) rfl rfl
  | .frz is, X, τ, B, E, F, b, st, h => by simp [ckS] at h
  | .iff c p q, X, τ, B, E, F, b, st, h => by
    simp only [ckS] at h; split at h <;> try (cases h; done)
    simp only [Bool.and_eq_true] at h
    obtain ⟨⟨⟨h1, h2⟩, h3⟩, h4⟩ := h
    have k := ss_if (pos := by assumption) ((snE c X τ B E F _ h2).t h1) (snSs p X τ B E F b _ h3) (snSs q X τ B E F b _ h4)
    refine k.imp fun D σ H z => ?_
    simpa only [ex, M.assoc, bind] using z
  | .for tg it body, X, τ, B, E, F, b, st, h => by
    simp only [ckS] at h; split at h <;> try (cases h; done)
    simp only [Bool.and_eq_true] at h
    obtain ⟨⟨h1, h2⟩, h3⟩ := h
    have hg := sn_tg (τ := τ) (B := B) (E := E) (nm := nm) (fnb := fun _ => true) F.gd F.N (fun x _ => b.hf x) tg _ h1
    exact ss_for F.gd b.hp (snI it X τ B E F _ _ h2 true) hg (snSs body X τ B E F b _ h3) (ckI_fold h2)
  | .forF i fs body, X, τ, B, E, F, b, st, h => by simp [ckS] at h
  | .whl c body, X, τ, B, E, F, b, st, h => by
    simp only [ckS] at h; split at h <;> try (cases h; done)
    simp only [Bool.and_eq_true] at h
    obtain ⟨⟨h1, h2⟩, h3⟩ := h
    exact ss_while b.hp ((snE c X τ B E F _ h2).t h1) (snSs body X τ B E F b _ h3)
  | .ret e, X, τ, B, E, F, b, st, h => by
    simp only [ckS] at h; split at h <;> try (cases h; done)
    exact ss_ret ((snE e X τ B E F _ h).v true)
  | .rai c, X, τ, B, E, F, b, st, h => by simp [ckS] at h
  | .exp e, X, τ, B, E, F, b, st, h => by
    simp only [ckS] at h; split at h <;> try (cases h; done)
    simp only [Bool.and_eq_true] at h
    exact ss_exp ((snE e X τ B E F _ h.1).v true) (notComp_sw h.2)
  | .pass, X, τ, B, E, F, b, st, h => by
    simp only [ckS] at h; split at h <;> try (cases h; done)
    exact ss_pass
  | .stk, X, τ, B, E, F, b, st, h => ss_never
theorem snSs : ∀ (c : CSs) (X : Cx) (τ : Tn) (B : Addr → Prop) (E : XK), Fx nm Gs CX X τ E → Bx X → ∀ l, ckSs nm X.env.scope c l = true → PSs X l (tS (arOf X τ B E) (exs (GG Gs τ) fu c))
  | .nil, X, τ, B, E, F, b, l, h => by
    cases l with
    | nil => exact ss_nil
    | cons => simp [ckSs] at h
  | .cons c r, X, τ, B, E, F, b, l, h => by
    have gen : ∀ st l, ckS nm X.env.scope c st = true → ckSs nm X.env.scope r l = true → PSs X (st :: l) (tS (arOf X τ B E) (exs (GG Gs τ) fu (.cons c r))) := fun st l h1 h2 => ss_cons (snS c X τ B E F b st h1) (snSs r X τ B E F b l h2)
    cases c with
    | frz is =>
      simp only [ckSs] at h
      exact ss_frz (snSs r X τ B E F b l h)
    | _ =>
      cases l with
      | nil => simp [ckSs] at h
      | cons st l =>
        simp only [ckSs, Bool.and_eq_true] at h
        exact gen st l h.1 h.2
end
end
end BK
set_option Elab.async false
set_option linter.all false
set_option maxRecDepth 100000
set_option maxHeartbeats 4000000
/-! Defs. -/
namespace BK
open PySem L2
def callD (fs : List (List Int → Fun)) (scr : List Int) (i : Nat) : Fun := match fs[i]? with
  | some f => f scr
  | none => fun _ => M.non
section
variable {P : Program} {w : World} {K : PySem.W.Frag} {mg : Str → Option Value} {base : Heap} {CX : CXT} {k : Nat}
/-- the defs that are known -/
structure FnB (P : Program) (w : World) (K : PySem.W.Frag) (mg : Str → Option Value) (base : Heap) (CX : CXT) (k : Nat) (τ0 : Tn) (x : Str) (f : Addr) (F : List Int → Fun) : Prop where
  ok : ∃ fd ps, FnOk P w K mg base CX k f fd ps (spD P w K τ0 F) ∧ Binds K fd ps []
  mg : mg x = some (.ref f)
  kp : PySem.W.keepIn K (.ref f) = true
theorem FnB.up {τ0 : Tn} {x : Str} {f : Addr} {F : List Int → Fun} (h : FnB P w K mg base CX k τ0 x f F) {j : Nat} (hj : k ≤ j) : FnB P w K mg base CX j τ0 x f F := by
  obtain ⟨⟨fd, ps, h1, h2⟩, h3, h4⟩ := h
  exact ⟨⟨fd, ps, h1.mono hj, h2⟩, h3, h4⟩
structure Gx (P : Program) (w : World) (K : PySem.W.Frag) (mg : Str → Option Value) (base : Heap) (CX : CXT) (τ0 : Tn) (CN : List (Str × PyData)) : Prop where
  bi : ∀ x, x ∈ biNames → mg x = none
  cn : ∀ x d, CN.lookup x = some d → ∃ v, (∃ u, mg x = some u ∧ RelV v u) ∧ ∀ S H, Dr K S H v d
def Tab (P : Program) (w : World) (K : PySem.W.Frag) (mg : Str → Option Value) (base : Heap) (CX : CXT) (k : Nat) (τ0 : Tn) (names : List Str) (fs : List (List Int → Fun)) : Prop :=
  ∀ i x, names[i]? = some x → FnB P w K mg base CX k τ0 x (τ0.fa i) fun scr => callD fs scr i
theorem Tab.up {τ0 : Tn} {names : List Str} {fs : List (List Int → Fun)} (h : Tab P w K mg base CX k τ0 names fs) {j : Nat} (hj : k ≤ j) : Tab P w K mg base CX j τ0 names fs := fun i x e => (h i x e).up hj
theorem Tab.nil {τ0 : Tn} : Tab P w K mg base CX k τ0 [] [] := fun i x h => by simp at h
theorem Tab.snoc {τ0 : Tn} {names : List Str} {fs : List (List Int → Fun)} {x : Str} {F : List Int → Fun} (h : Tab P w K mg base CX k τ0 names fs) (hl : names.length = fs.length) (hF : FnB P w K mg base CX k τ0 x (τ0.fa names.length) F) : Tab P w K mg base CX k τ0 (names ++ [x]) (fs ++ [F]) := by
  intro i y e
  by_cases hi : i < names.length
  · rw [List.getElem?_append_left hi] at e
    have : (fun scr => callD (fs ++ [F]) scr i) = fun scr => callD fs scr i := by
      funext scr
      unfold callD
      rw [List.getElem?_append_left (by omega)]
    rw [this]
    exact h i y e
  · rw [List.getElem?_append_right (by omega)] at e
    have hz : i = names.length := by
      cases hq : i - names.length with
      | zero => omega
      | succ n => rw [hq] at e; simp at e
    subst hz
    rw [Nat.sub_self] at e
    cases e
    have : (fun scr => callD (fs ++ [F]) scr names.length) = F := by
      funext scr
      unfold callD
      rw [hl, List.getElem?_append_right (Nat.le_refl _), Nat.sub_self]
      rfl
    rw [this]
    exact hF
theorem spD_eq {τ τ0 : Tn} (h1 : τ.fa = τ0.fa) (h2 : τ.cl = τ0.cl) (h3 : τ.tabs = τ0.tabs) (F : List Int → Fun) : spD P w K τ F = spD P w K τ0 F := by
  unfold spD
  rw [h1, h2, h3]
theorem Dvs.len {a : Ar} {S : Addr → Prop} {H : Hp} {vs : List V} {ds : List D} (h : Dvs a S H vs ds) : vs.length = ds.length := by
  induction h with
  | nil => rfl
  | cons _ _ ih => simp [ih]
theorem Dvs.get {a : Ar} {S : Addr → Prop} {H : Hp} : ∀ {vs : List V} {ds : List D} {i : Nat} {d : D}, Dvs a S H vs ds → ds[i]? = some d → ∃ v, vs[i]? = some v ∧ Dv a.P a.w a.K a.τ S true H v d
  | _, _, _, _, .nil, e => by simp at e
  | _, _, 0, _, .cons h _, e => by simp at e; subst e; exact ⟨_, rfl, h⟩
  | _, _, i + 1, d, .cons _ t, e => by
    obtain ⟨v, h1, h2⟩ := Dvs.get (i := i) (d := d) t (by simpa using e)
    exact ⟨v, by simpa using h1, h2⟩
def env0 (ns : Nat) (ds : List D) : Env := ds.map (fun d => some (false, d)) ++ List.replicate (ns - ds.length) none
theorem env0_get {ns : Nat} {ds : List D} {i : Nat} {o : Bool} {d : D} (h : (env0 ns ds)[i]? = some (some (o, d))) : o = false ∧ ds[i]? = some d := by
  unfold env0 at h
  by_cases hi : i < ds.length
  · rw [List.getElem?_append_left (by simpa using hi), List.getElem?_map] at h
    cases e : ds[i]? with
    | none => rw [e] at h; cases h
    | some x => rw [e] at h; cases h; exact ⟨rfl, rfl⟩
  · rw [List.getElem?_append_right (by simpa using hi), List.getElem?_replicate] at h
    split at h <;> cases h
/-- at the entry of a def -/
theorem rep_start {τ : Tn} {S : Addr → Prop} {E : XK} {H : Hp} {N : List Str} {vs : List V} {ds : List D} {s : Twn} (t : TownR τ H s) (hT : ∀ a, τ.U a → S a) (hS : ∀ a, S a → H a ≠ none) (dv : Dvs ⟨P, w, K, τ, S, E⟩ S H vs ds) (hl : ds.length ≤ N.length) :
    Rep P w K τ S (env0 N.length ds) (L2.start N vs) H ∧ ∀ a, ¬ Own (env0 N.length ds) (L2.start N vs) a := by
  have hO : ∀ a, ¬ Own (env0 N.length ds) (L2.start N vs) a := fun a ⟨i, d, h1, _⟩ => by
    have := (env0_get h1).1
    cases this
  have hA : ∀ a, Av S (env0 N.length ds) (L2.start N vs) a → S a := fun a z => z.elim id fun z => absurd z (hO a)
  refine ⟨⟨?_, fun i d h => ?_, fun i d h => ?_, fun i j a d e h1 => ?_, hS, hT⟩, hO⟩
  · unfold L2.start env0
    simp [dv.len]
  · obtain ⟨_, h⟩ := env0_get h
    obtain ⟨v, h1, h2⟩ := dv.get h
    refine ⟨v, ?_, Dv.mono hA h2⟩
    unfold L2.start
    rw [List.getElem?_append_left (by rw [List.length_map]; exact (List.getElem?_eq_some_iff.mp h1).1), List.getElem?_map, h1]
    rfl
  · have := (env0_get h).1
    cases this
  · have := (env0_get h1).1
    cases this
theorem runF_eq {G : Nat → Fun} {fu : Nat} {f : CF} {ds : List D} (hl : ds.length = f.np) : runF G fu f ds = (do
    match ← exs G fu f.body (env0 f.ns ds) with
    | .nx _ => M.ret non
    | .rt d => M.ret d) := by
  unfold runF env0
  rw [if_pos hl, hl] <;> rfl
theorem runF_len {G : Nat → Fun} {fu : Nat} {f : CF} {ds : List D} {s : Twn} {τ : Tn} {E : XK} {H : Hp} {Q : D → Twn → Hp → Prop} (h : Ok τ E H (runF G fu f ds s) Q) : ds.length = f.np := by
  by_cases hl : ds.length = f.np
  · exact hl
  · unfold runF at h
    rw [if_neg hl] at h
    exact h.elim
/-- THE DEF: its body, by the small language -/
theorem fn_ok {x qual : Str} {st : Stmt} {f : Addr} {fd : FuncData} {N ps : List Str} {τ0 : Tn} {names : List Str} {fs : List (List Int → Fun)} {CN : List (Str × PyData)} {cf : CF} {fu : Nat} (FU : L2.Fun K x qual st f fd) (S : FnScope N ps (defScope st)) (G : Gx P w K mg base CX0 τ0 CN) (T : Tab P w K mg base CX0 k τ0 names fs)
    (hnp : cf.np = ps.length) (hns : cf.ns = N.length) (hc : ckSs ⟨N, names, CN⟩ (defScope st) cf.body (defBody st) = true) :
    FnOk P w K mg base CX0 (k + 1) f fd ps (spD P w K τ0 fun scr => runF (callD fs scr) fu cf) := by
  have hle : ps.length ≤ N.length := by
    have := congrArg List.length S.pre
    rw [List.length_take] at this
    omega
  refine Fun.ok FU S (fun vs H Q E h => ?_) fun cdv A outer s H vs Q E hr h => ?_
  · obtain ⟨τ, s, ds, B, _, _, _, _, _, _, _, dv, h⟩ := h
    rw [dv.len, runF_len h, hnp]
  · obtain ⟨τ, tw, ds, B, ef, ec, et, eK, t, hT, hS, dv, h⟩ := h
    have h : Ok τ E H (runF (callD fs τ.scr) fu cf ds tw) _ := h
    have hl := runF_len h
    rw [runF_eq hl] at h
    have hX : Fx ⟨N, names, CN⟩ (fun i scr => callD fs scr i) CX0 (cxOf CX0 P w K mg base N qual (defScope st) f cdv A outer s H E).nox τ E := {
      gd := ⟨rfl, by have := hr.un; show (A.deeper (PyProof.Rows.envOfC qual (defScope st) s.heap.objs.size f cdv)).units + 64 < cLine; omega, S.nd⟩
      N := rfl
      fn := fun x i hi => by
        obtain ⟨⟨fd', ps', h1, h2⟩, h3, h4⟩ := T i x hi
        rw [← ef] at h1 h3 h4
        exact ⟨⟨fd', ps', k, by rw [spD_eq ef ec et]; exact h1, hr, h2⟩, h3, h4⟩
      bi := G.bi
      ps := pass0
      pb := fun _ _ _ => pass0
      K := eK
      cn := G.cn }
    have bX : Bx (cxOf CX0 P w K mg base N qual (defScope st) f cdv A outer s H E).nox := ⟨by
      show (if (defScope st).kind.isAnnotationScope then ScopeKind.function else (defScope st).kind) = .function
      rw [S.kind]
      rfl, PassesOwn.never, fun _ => rfl⟩
    obtain ⟨R, hO⟩ := rep_start (N := N) t hT hS dv (by rw [hl, hnp]; exact hle)
    rw [hns] at h
    refine ⟨_, snSs (nm := ⟨N, names, CN⟩) (Gs := fun i scr => callD fs scr i) (fu := fu) cf.body _ τ B E hX bX _ hc, env0 N.length ds, tw, R, t, ?_⟩
    have hK : ∀ {H' : Hp}, Ke (Ch τ (env0 N.length ds) (L2.start N vs)) H H' → Xt τ H H' := fun k => k.mono fun a z => z.elim id fun z => absurd z (hO a)
    refine Wp.mono (Wp.bnd h) (fun fl s' q => ?_) fun c s' q H' k t' => q H' (hK k) t'
    cases fl with
    | nx env' => exact fun σ' H' p t' => q H' (hK p.ke) t' .non (Dv.weak (d := .dat _) .non)
    | rt d => exact fun v H' k t' dv => q H' (hK k) t' v dv
end
end BK
set_option Elab.async false
set_option linter.all false
set_option maxRecDepth 100000
set_option maxHeartbeats 4000000
/-! The draws. -/
namespace BK
open PySem L2
def lookR (rs : List (Int × Int)) (k : Int) : Option Int := (rs.find? fun p => decide (p.1 = k)).map (·.2)
def putR (rs : List (Int × Int)) (k v : Int) : List (Int × Int) := if (rs.any fun p => decide (p.1 = k)) = true then rs.map (fun p => if p.1 = k then (p.1, v) else p) else rs ++ [(k, v)]
def drawAt (scr : List Int) (c : Int) : Int := if scr = [] then 0 else c % scr.length
def drawDf (scr : List Int) (at_ : Int) : Int := if scr = [] then 0 else (atI scr at_).getD 0
def drawRest (scr : List Int) (s : Twn) : Int := (lookR s.rests (drawAt scr (s.cnt + 1))).getD (drawDf scr (drawAt scr (s.cnt + 1)))
def drawNum (rest c many : Int) : Int :=
  let n := (rest + 104729 * c) % 4294967291
  let n := n ^ 5 % 4294967279
  ((n / 64 * 69621 + n) % 4294967231) / 8 % many
def drawV (scr : List Int) (s : Twn) (many : Int) : Int :=
  if 10 ^ 18 ≤ drawRest scr s then drawRest scr s % many else drawNum (drawRest scr s) (s.cnt + 1) many
def drawN (scr : List Int) (s : Twn) (many : Int) : Twn :=
  if 10 ^ 18 ≤ drawRest scr s then ⟨s.cnt + 1, putR s.rests (drawAt scr (s.cnt + 1)) (drawRest scr s / many)⟩ else ⟨s.cnt + 1, s.rests⟩
def drawArg : List D → Option Int
  | [.scr, .town, .dat (.int many)] => some many
  | _ => none
theorem drawArg_of {ds : List D} {many : Int} (h : drawArg ds = some many) : ds = [.scr, .town, int many] := by
  unfold drawArg at h
  split at h
  · cases h
    rfl
  · cases h
def drawM (scr : List Int) (many : Int) : M D := fun s => if 0 < many ∧ many ≤ 1000 ∧ s.rests.length < 1000 ∧ scr.length ≤ 1000 then .ok (int (drawV scr s many)) (drawN scr s many) else .stuck
def drawF (scr : List Int) : Fun := fun ds => do
  let many ← M.of (drawArg ds)
  drawM scr many
theorem drawF_of {scr : List Int} {ds : List D} {tw : Twn} {Q : D → Twn → Prop} {E : Nat → Twn → Prop} (h : Wp (drawF scr ds tw) Q E) : ∃ many, ds = [.scr, .town, int many] ∧ 0 < many ∧ many ≤ 1000 ∧ tw.rests.length < 1000 ∧ scr.length ≤ 1000 ∧ Q (int (drawV scr tw many)) (drawN scr tw many) := by
  obtain ⟨many, hd, h⟩ := Wp.of (Wp.bnd h)
  refine ⟨many, drawArg_of hd, ?_⟩
  unfold drawM at h
  by_cases hc : 0 < many ∧ many ≤ 1000 ∧ tw.rests.length < 1000 ∧ scr.length ≤ 1000
  · rw [if_pos hc] at h
    exact ⟨hc.1, hc.2.1, hc.2.2.1, hc.2.2.2, h⟩
  · rw [if_neg hc] at h
    exact h.elim
section
variable {τ : Tn} {H : Hp} {s : Twn}
theorem dk_ke {a : Addr} {kvs kvs' : List (Key × V)} (h : H a = some (.dK kvs)) : Ke (fun b => b = a) H (upd H a (.dK kvs')) := by
  refine ⟨fun b o n _ e => by rw [upd_ne n]; exact e, fun b n => ?_, fun b zs r => ?_⟩
  · by_cases e : b = a
    · rw [e, upd_same]; simp
    · rw [upd_ne e]; exact n
  · have e : b ≠ a := fun e => by
      rcases r with r | ⟨o, r⟩ <;> rw [e, h] at r <;> cases r
    unfold Rd
    rw [upd_ne e]
    exact r
theorem dk_tabs {T : List (Addr × Str)} {a : Addr} {kvs kvs' : List (Key × V)} (h : H a = some (.dK kvs)) (t : LamX.Tabs T H) : LamX.Tabs T (upd H a (.dK kvs')) := fun p hp => by
  obtain ⟨ps, h1, h2, h3⟩ := t p hp
  refine ⟨ps, ?_, h2, fun pos cv hc => ?_⟩
  · rw [upd_ne (fun e => by rw [e, h] at h1; cases h1)]
    exact h1
  · obtain ⟨c, e1, e2⟩ := h3 pos cv hc
    exact ⟨c, e1, by rw [upd_ne (fun e => by rw [e, h] at e2; cases e2)]; exact e2⟩
theorem dk_scr {a : Addr} {kvs kvs' : List (Key × V)} (h : H a = some (.dK kvs)) (t : Scr τ H) : Scr τ (upd H a (.dK kvs')) := by
  refine t.upd fun z e => ?_
  unfold Scr at t
  rw [if_pos z, ← e] at t
  rcases t with t | ⟨o, t⟩ <;> rw [h] at t <;> cases t
abbrev restsV (s : Twn) : List (Key × V) := s.rests.map fun p => (.inl p.1, .int p.2)
theorem put_count {c : Int} {ra : Addr} {v : V} : putK [((.inr "count" : Key), V.int c), (.inr "rests", V.ref ra)] (.inr "count") v = [(.inr "count", v), (.inr "rests", V.ref ra)] := by
  have e2 : ¬ ((.inr "rests" : Key) = .inr "count") := by
    intro z
    exact absurd (Sum.inr.inj z) (by decide)
  simp [putK, e2]
theorem val_count {c : Int} {ra : Addr} : valV [((.inr "count" : Key), V.int c), (.inr "rests", V.ref ra)] (.inr "count") = some (.int c) := by
  simp [valV]
theorem val_rests {c : Int} {ra : Addr} : valV [((.inr "count" : Key), V.int c), (.inr "rests", V.ref ra)] (.inr "rests") = some (.ref ra) := by
  have e2 : ¬ ((.inr "count" : Key) = .inr "rests") := by
    intro z
    exact absurd (Sum.inr.inj z) (by decide)
  simp [valV, e2]
theorem val_rest : ∀ (rs : List (Int × Int)) (k : Int), valV (rs.map fun p => ((.inl p.1 : Key), V.int p.2)) (.inl k) = (lookR rs k).map V.int
  | [], k => rfl
  | p :: rs, k => by
    have ih := val_rest rs k
    unfold valV lookR at ih ⊢
    rw [List.map_cons, List.find?_cons, List.find?_cons]
    by_cases e : p.1 = k
    · simp [e]
    · have e2 : ¬ ((.inl p.1 : Key) = .inl k) := fun z => e (Sum.inl.inj z)
      simp only [e, e2, decide_false]
      exact ih
theorem put_rest (rs : List (Int × Int)) (k v : Int) : putK (rs.map fun p => ((.inl p.1 : Key), V.int p.2)) (.inl k) (.int v) = (putR rs k v).map fun p => ((.inl p.1 : Key), V.int p.2) := by
  have e1 : ((rs.map fun p => ((.inl p.1 : Key), V.int p.2)).any fun kv => decide (kv.1 = .inl k)) = rs.any fun p => decide (p.1 = k) := by
    rw [List.any_map]
    congr 1
    funext p
    simp [Function.comp]
  unfold putK putR
  rw [e1]
  split
  · rw [List.map_map, List.map_map]
    congr 1
    funext p
    simp only [Function.comp]
    by_cases e : p.1 = k
    · simp [e]
    · have e2 : ¬ ((.inl p.1 : Key) = .inl k) := fun z => e (Sum.inl.inj z)
      simp [e]
  · simp
/-- the count is one more -/
theorem TownR.count (t : TownR τ H s) : TownR τ (L2.upd H τ.ta (.dK [(.inr "count", .int (s.cnt + 1)), (.inr "rests", .ref τ.ra)])) ⟨s.cnt + 1, s.rests⟩ :=
  ⟨upd_same, by rw [upd_ne (Ne.symm t.2.2.1)]; exact t.2.1, t.2.2.1, dk_tabs t.1 t.2.2.2.1, dk_scr t.1 t.2.2.2.2⟩
theorem TownR.rest (t : TownR τ H s) {rs : List (Int × Int)} : TownR τ (L2.upd H τ.ra (.dK (rs.map fun p => (.inl p.1, .int p.2)))) ⟨s.cnt, rs⟩ :=
  ⟨by rw [upd_ne t.2.2.1]; exact t.1, upd_same, t.2.2.1, dk_tabs t.2.1 t.2.2.2.1, dk_scr t.2.1 t.2.2.2.2⟩
theorem xt_count (t : TownR τ H s) {kvs : List (Key × V)} : Xt τ H (upd H τ.ta (.dK kvs)) := (dk_ke t.1).mono fun b e => .inl e
theorem xt_rest (t : TownR τ H s) {kvs : List (Key × V)} : Xt τ H (upd H τ.ra (.dK kvs)) := (dk_ke t.2.1).mono fun b e => .inr e
theorem dg_count (t : TownR τ H s) : DGet H τ.ta (.str "count") (some (.int s.cnt)) := .inl ⟨_, .inr "count", .inl t.1, rfl, val_count.symm⟩
theorem dg_rests (t : TownR τ H s) : DGet H τ.ta (.str "rests") (some (.ref τ.ra)) := .inl ⟨_, .inr "rests", .inl t.1, rfl, val_rests.symm⟩
theorem dp_count (t : TownR τ H s) : DPut H τ.ta (.str "count") (.int (s.cnt + 1)) (L2.upd H τ.ta (.dK [(.inr "count", .int (s.cnt + 1)), (.inr "rests", .ref τ.ra)])) := by
  refine .inl ⟨_, .inr "count", t.1, rfl, ?_, ?_⟩
  · rw [sizeLine_eq]
    exact (by decide : 2 < 16777216)
  · rw [put_count]
theorem dg_rest (t : TownR τ H s) (k : Int) : DGet H τ.ra (.int k) ((lookR s.rests k).map V.int) := .inl ⟨_, .inl k, .inl t.2.1, rfl, (val_rest _ _).symm⟩
theorem dp_rest (t : TownR τ H s) (hl : s.rests.length < 1000) (k v : Int) : DPut H τ.ra (.int k) (.int v) (L2.upd H τ.ra (.dK ((putR s.rests k v).map fun p => (.inl p.1, .int p.2)))) := by
  refine .inl ⟨_, .inl k, t.2.1, rfl, ?_, ?_⟩
  · rw [sizeLine_eq, List.length_map]
    omega
  · rw [put_rest]
theorem getD_map (o : Option Int) (d : Int) : (o.map V.int).getD (.int d) = .int (o.getD d) := by
  cases o <;> rfl
theorem atI_map {α β : Type} (f : α → β) (xs : List α) (i : Int) : atI (xs.map f) i = (atI xs i).map f := by
  unfold atI
  rw [List.length_map]
  cases ixN xs.length i with
  | none => rfl
  | some j => simp
theorem at_there {scr : List Int} {c : Int} (h : scr ≠ []) : ∃ v, atI scr (c % scr.length) = some v := by
  have hl : 0 < scr.length := List.length_pos_iff.mpr h
  have h0 : 0 ≤ c % (scr.length : Int) := Int.emod_nonneg _ (by omega)
  have h1 : c % (scr.length : Int) < scr.length := Int.emod_lt_of_pos _ (by omega)
  unfold atI ixN
  rw [if_pos h0, if_pos h1]
  have : (c % (scr.length : Int)).toNat < scr.length := by omega
  exact ⟨scr[(c % (scr.length : Int)).toNat], by simp [this]⟩
theorem at_ok {K : PySem.W.Frag} {σ : L2.St} {Q : VK} (h0 : σ[0]? = some (some (V.ref τ.sa))) (h1 : σ[1]? = some (some (V.ref τ.ta))) (t : TownR τ H s) (hs : SqL K H τ.sa (τ.scr.map V.int)) (q : Q (.int (drawAt τ.scr s.cnt)) H) :
    tIf (fun σ H Q => tVar 0 σ H fun x H' => ∃ k, TruV K x H' k ∧ Q k H') (tOp (rI (fun _ j => 0 < j) fun i j => .int (i % j)) (tDGet (tVar 1) (tC (.str "count"))) (tCB (fun xs H Q => ∃ p ys, xs = [.ref p] ∧ (SqL K H p ys ∨ SqT K H p ys) ∧ Q (.int ys.length) H) (tCons (tVar 0) tNil))) (tC (.int 0)) σ H Q := by
  refine ⟨.ref τ.sa, h0, !(τ.scr.map V.int).isEmpty, .inl ⟨_, hs, rfl⟩, ?_⟩
  by_cases hc : τ.scr = []
  · rw [hc]
    show Q (.int 0) H
    unfold drawAt at q
    rw [if_pos hc] at q
    exact q
  · have hk : (!(τ.scr.map V.int).isEmpty) = true := by
      cases hq : τ.scr with
      | nil => exact absurd hq hc
      | cons a b => rfl
    rw [hk]
    dsimp only
    rw [if_pos rfl]
    have hl : 0 < τ.scr.length := List.length_pos_iff.mpr hc
    refine ⟨.ref τ.ta, h1, τ.ta, .int s.cnt, rfl, dg_count t, .ref τ.sa, h0, τ.sa, _, rfl, .inl hs, s.cnt, _, rfl, rfl, ?_, ?_⟩
    · rw [List.length_map]
      omega
    · rw [List.length_map]
      unfold drawAt at q
      rw [if_neg hc] at q
      exact q
theorem df_ok {K : PySem.W.Frag} {σ : L2.St} {Q : VK} {c : Int} (h0 : σ[0]? = some (some (V.ref τ.sa))) (h3 : σ[3]? = some (some (V.int (drawAt τ.scr c)))) (hs : SqL K H τ.sa (τ.scr.map V.int)) (q : Q (.int (drawDf τ.scr (drawAt τ.scr c))) H) :
    tIf (fun σ H Q => tVar 0 σ H fun x H' => ∃ k, TruV K x H' k ∧ Q k H') (tOp (rIxL K) (tVar 0) (tVar 3)) (tC (.int 0)) σ H Q := by
  refine ⟨.ref τ.sa, h0, !(τ.scr.map V.int).isEmpty, .inl ⟨_, hs, rfl⟩, ?_⟩
  by_cases hc : τ.scr = []
  · rw [hc]
    show Q (.int 0) H
    unfold drawDf at q
    rw [if_pos hc] at q
    exact q
  · have hk : (!(τ.scr.map V.int).isEmpty) = true := by
      cases hq : τ.scr with
      | nil => exact absurd hq hc
      | cons a b => rfl
    rw [hk]
    dsimp only
    rw [if_pos rfl]
    obtain ⟨v, hv⟩ := at_there (c := c) hc
    refine ⟨.ref τ.sa, h0, _, h3, τ.sa, _, _, .int v, rfl, rfl, hs, ?_, ?_⟩
    · unfold drawAt
      rw [if_neg hc, atI_map, hv]
      rfl
    · unfold drawDf at q
      rw [if_neg hc] at q
      have : atI τ.scr (drawAt τ.scr c) = some v := by
        unfold drawAt
        rw [if_neg hc]
        exact hv
      rw [this] at q
      exact q
end
end BK
set_option Elab.async false
set_option linter.all false
set_option maxRecDepth 100000
set_option maxHeartbeats 4000000
/-! The law itself: the town is made, then the small language. -/
namespace BK
open PySem L2
theorem merge_town {ra : Addr} : mergeK [] [((.inr "count" : Key), V.int 0), (.inr "rests", V.ref ra)] = [(.inr "count", .int 0), (.inr "rests", .ref ra)] := by
  have e2 : ¬ ((.inr "count" : Key) = .inr "rests") := by
    intro z
    exact absurd (Sum.inr.inj z) (by decide)
  simp [mergeK, putK, e2]
def spB : Sp := fun vs H Q _ => vs = [] ∧ ∀ ta ra, H ta = none → H ra = none → ta ≠ ra → Q (.ref ta) (upd (upd (upd H ta (.dK [])) ra (.dK [])) ta (.dK [(.inr "count", .int 0), (.inr "rests", .ref ra)]))
def spL (K : PySem.W.Frag) : Sp := fun vs H Q _ => ∃ (a : Addr) (ns : List Int), vs = [.ref a] ∧ SqL K H a (ns.map V.int) ∧ ns.length ≤ 63 ∧ ∀ H', Q (.bl true) H'
def lawEnv (n : Nat) : Env := some (false, .scr) :: some (false, .town) :: List.replicate (n - 2) none
section
variable {P : Program} {w : World} {K : PySem.W.Frag} {mg : Str → Option Value} {base : Heap} {k : Nat}
theorem begun_ok {st : Stmt} {f : Addr} {fd : FuncData} (FU : L2.Fun K "_law_begun" "_law_begun" st f fd) {p1 p2 p3 p4 p5 p6 : Pos} {k1 k2 k3 : Nat}
    (hb : defBody st = [.Return (some (.Dict [some (.Constant (.str "count") k1 p1), some (.Constant (.str "rests") k2 p2)] [.Constant (.int 0) k3 p3, .Dict [] [] p4] p5)) p6]) (S : FnScope [] [] (defScope st)) : FnOk P w K mg base CX0 1 f fd [] spB := by
  refine L2.Fun.ok FU S (fun vs H Q E h => by rw [h.1]; rfl) fun cdv A outer s H vs Q E hr h => ?_
  obtain ⟨rfl, q⟩ := h
  rw [hb]
  refine ⟨_, pss_one (ps_ret (pe_disp (pps_cons pe_str pe_int (pps_cons pe_str pe_dnewK pps_nil)) rfl rfl (by simp) (by simp))), ?_⟩
  intro ta hta ra hra
  have hne : ta ≠ ra := fun e => by
    rw [← e, upd_same] at hra
    cases hra
  have hra0 : H ra = none := by
    rw [upd_ne (Ne.symm hne)] at hra
    exact hra
  refine ⟨by rw [upd_ne hne, upd_same], [(.inr "count", .int 0), (.inr "rests", .ref ra)], rfl, (by decide : 2 ≤ 15), ?_⟩
  rw [merge_town]
  exact q ta ra hta hra0 hne
theorem law_ok {st : Stmt} {f fb : Addr} {fd fdb : FuncData} {N : List Str} {τ0 : Tn} {names : List Str} {fs : List (List Int → Fun)} {CN : List (Str × PyData)} {cf : CF} {fu : Nat} (FU : L2.Fun K "law" "law" st f fd) (S : FnScope N ["_law_script"] (defScope st)) (G : Gx P w K mg base CX0 τ0 CN) (T : Tab P w K mg base CX0 k τ0 names fs)
    (hk : 1 ≤ k) (hB : FnOk P w K mg base CX0 1 fb fdb [] spB) (bB : Binds K fdb [] []) (mB : mg "_law_begun" = some (.ref fb)) (kB : PySem.W.keepIn K (.ref fb) = true) {p1 p2 p3 p4 : Pos} {rest : List Stmt}
    (hb : defBody st = .Assign [.Name "_law_town" p1] (.Call (.Name "_law_begun" p2) [] [] p3) p4 :: rest) (hN : N[1]? = some ("_law_town" : Str)) (hloc : (defScope st).names.lookup ("_law_town" : Str) = some .local) (hgl : (defScope st).names.lookup ("_law_begun" : Str) = some .globalImplicit)
    (h0 : τ0.tabs = []) (hK : τ0.K = K) (hc : ckSs ⟨N, names, CN⟩ (defScope st) cf.body rest = true)
    (plain : ∀ scr : List Int, scr.length ≤ 63 → ∃ s', exs (callD fs scr) fu cf.body (lawEnv N.length) ⟨0, []⟩ = .ok (.rt (bl true)) s') :
    FnOk P w K mg base CX0 (k + 1) f fd ["_law_script"] (spL K) := by
  refine L2.Fun.ok FU S (fun vs H Q E h => by obtain ⟨a, ns, rfl, _⟩ := h; rfl) fun cdv A outer s H vs Q E hr h => ?_
  obtain ⟨a, ns, rfl, hs, hl, q⟩ := h
  have hN2 : 2 ≤ N.length := (List.getElem?_eq_some_iff.mp hN).1
  rw [hb]
  have hF : ∀ τ : Tn, τ.fa = τ0.fa → τ.cl = τ0.cl → τ.tabs = τ0.tabs → τ.K = K → Fx ⟨N, names, CN⟩ (fun i scr => callD fs scr i) CX0 (cxOf CX0 P w K mg base N "law" (defScope st) f cdv A outer s H E).nox τ E := fun τ ef ec et eK => {
    gd := ⟨rfl, by have := hr.un; show (A.deeper (PyProof.Rows.envOfC "law" (defScope st) s.heap.objs.size f cdv)).units + 64 < cLine; omega, S.nd⟩
    N := rfl
    fn := fun x i hi => by
      obtain ⟨⟨fd', ps', h1, h2⟩, h3, h4⟩ := T i x hi
      rw [← ef] at h1 h3 h4
      exact ⟨⟨fd', ps', k, by rw [spD_eq ef ec et]; exact h1, hr, h2⟩, h3, h4⟩
    bi := G.bi
    ps := pass0
    pb := fun _ _ _ => pass0
    K := eK
    cn := G.cn }
  have bX : Bx (cxOf CX0 P w K mg base N "law" (defScope st) f cdv A outer s H E).nox := ⟨by
    show (if (defScope st).kind.isAnnotationScope then ScopeKind.function else (defScope st).kind) = .function
    rw [S.kind]
    rfl, PassesOwn.never, fun _ => rfl⟩
  -- the town that comes, as the text's words are read
  have key : ∀ ta ra, H ta = none → H ra = none → ta ≠ ra → ∃ τ : Tn, τ.fa = τ0.fa ∧ τ.cl = τ0.cl ∧ τ.tabs = τ0.tabs ∧ τ.K = K ∧ τ.ta = ta ∧ τ.ra = ra ∧ τ.sa = a ∧ τ.scr = ns ∧
      TownR τ (upd (upd (upd H ta (.dK [])) ra (.dK [])) ta (.dK [(.inr "count", .int 0), (.inr "rests", .ref ra)])) ⟨0, []⟩ := by
    intro ta ra hta hra hne
    have hT : ∀ τ : Tn, τ.ta = ta → τ.ra = ra → τ.tabs = [] → Scr τ (upd (upd (upd H ta (.dK [])) ra (.dK [])) ta (.dK [(.inr "count", .int 0), (.inr "rests", .ref ra)])) → TownR τ (upd (upd (upd H ta (.dK [])) ra (.dK [])) ta (.dK [(.inr "count", .int 0), (.inr "rests", .ref ra)])) ⟨0, []⟩ := by
      intro τ e1 e2 e3 sc
      refine ⟨by rw [e1, e2, upd_same], by rw [e2, upd_ne (Ne.symm hne), upd_same]; rfl, by rw [e1, e2]; exact hne, ?_, sc⟩
      rw [e3]
      exact fun p hp => by cases hp
    rcases hs with hs | hs
    · refine ⟨{ τ0 with ta := ta, ra := ra, sa := a, scr := ns, dy := true, K := K }, rfl, rfl, rfl, rfl, rfl, rfl, rfl, rfl, hT _ rfl rfl h0 ?_⟩
      have n1 : a ≠ ta := fun e => by rcases hs with z | ⟨o, z⟩ <;> rw [e, hta] at z <;> cases z
      have n2 : a ≠ ra := fun e => by rcases hs with z | ⟨o, z⟩ <;> rw [e, hra] at z <;> cases z
      unfold Scr Rd
      rw [if_pos rfl]
      simp only [upd_ne n1, upd_ne n2]
      exact hs
    · refine ⟨{ τ0 with ta := ta, ra := ra, sa := a, scr := ns, dy := false, K := K }, rfl, rfl, rfl, rfl, rfl, rfl, rfl, rfl, hT _ rfl rfl h0 ?_⟩
      unfold Scr
      rw [if_neg Bool.false_ne_true]
      exact .inr hs
  refine ⟨_, pss_cons (ps_set (i := 1) S.nd hN (.inl hloc) (pe_call0 hB (hr.mono hk) hgl mB kB bB .nil pass0) rfl (.inr hloc)) (PSs.imp (t' := fun D σ H1 => ∃ τ, tS (arOf (cxOf CX0 P w K mg base N "law" (defScope st) f cdv A outer s H E).nox τ τ.U E) (exs (GG (fun i scr => callD fs scr i) τ) fu cf.body) D σ H1 ∧ τ.fa = τ0.fa ∧ τ.cl = τ0.cl ∧ τ.tabs = τ0.tabs ∧ τ.K = K) (t := fun D σ H1 => ∃ τ, tS (arOf (cxOf CX0 P w K mg base N "law" (defScope st) f cdv A outer s H E).nox τ τ.U E) (exs (GG (fun i scr => callD fs scr i) τ) fu cf.body) D σ H1 ∧ τ.fa = τ0.fa ∧ τ.cl = τ0.cl ∧ τ.tabs = τ0.tabs ∧ τ.K = K) ⟨fun pins s1 σ H1 D I ⟨τ, z, ef, ec, et, eK⟩ => (snSs (nm := ⟨N, names, CN⟩) (Gs := fun i scr => callD fs scr i) (fu := fu) cf.body _ τ τ.U E (hF τ ef ec et eK) bX rest hc).run pins s1 σ H1 D I z⟩ fun _ _ _ z => z), ?_⟩
  refine ⟨rfl, fun ta ra hta hra hne => ?_⟩
  obtain ⟨τ, ef, ec, et, eK, e1, e2, e3, e4, t⟩ := key ta ra hta hra hne
  refine ⟨τ, ⟨lawEnv N.length, ⟨0, []⟩, ?_, t, ?_⟩, ef, ec, et, eK⟩
  · have hO : ∀ b, ¬ Own (lawEnv N.length) ((L2.start N [V.ref a]).set 1 (some (V.ref ta))) b := fun b ⟨i, d, h1, _⟩ => by
      unfold lawEnv at h1
      match i with
      | 0 => cases h1
      | 1 => cases h1
      | i + 2 =>
        rw [List.getElem?_cons_succ, List.getElem?_cons_succ, List.getElem?_replicate] at h1
        split at h1 <;> cases h1
    refine ⟨?_, fun i d h => ?_, fun i d h => ?_, fun i j b d e h1 => ?_, fun b h => t.ne h, fun b h => h⟩
    · unfold lawEnv L2.start
      simp
      omega
    · unfold lawEnv at h
      match i with
      | 0 =>
        cases h
        exact ⟨.ref a, rfl, show V.ref a = .ref τ.sa by rw [e3]⟩
      | 1 =>
        cases h
        refine ⟨.ref ta, ?_, show V.ref ta = .ref τ.ta by rw [e1]⟩
        rw [List.getElem?_set_self]
        unfold L2.start
        simp
        omega
      | i + 2 =>
        rw [List.getElem?_cons_succ, List.getElem?_cons_succ, List.getElem?_replicate] at h
        split at h <;> cases h
    · unfold lawEnv at h
      match i with
      | 0 => cases h
      | 1 => cases h
      | i + 2 =>
        rw [List.getElem?_cons_succ, List.getElem?_cons_succ, List.getElem?_replicate] at h
        split at h <;> cases h
    · unfold lawEnv at h1
      match i with
      | 0 => cases h1
      | 1 => cases h1
      | i + 2 =>
        rw [List.getElem?_cons_succ, List.getElem?_cons_succ, List.getElem?_replicate] at h1
        split at h1 <;> cases h1
  · obtain ⟨s', hs'⟩ := plain ns hl
    have e : exs (GG (fun i scr => callD fs scr i) τ) fu cf.body (lawEnv N.length) ⟨0, []⟩ = .ok (.rt (bl true)) s' := by
      rw [← e4] at hs'
      exact hs'
    unfold SOk
    rw [e]
    intro v H' _ _ dv
    have := dv.i.bl
    rw [this]
    exact q H'
end
end BK
set_option Elab.async false
set_option linter.all false
set_option maxRecDepth 100000
/-! Evaluation by hand: one rule for each form. -/
namespace BK
open PySem
theorem bind_eq {α β : Type} (x : M α) (f : α → M β) : (x >>= f) = M.bnd x f := rfl
theorem bnd_ok {α β : Type} {x : M α} {f : α → M β} {s s' : Twn} {a : α} (h : x s = .ok a s') : M.bnd x f s = f a s' := by
  unfold M.bnd
  rw [h]
theorem of_ok {α : Type} {o : Option α} {a : α} {s : Twn} (h : o = some a) : M.of o s = .ok a s := by
  rw [h]
  rfl
/-- one after the other -/
theorem b_ok {α β : Type} {x : M α} {f : α → M β} {s s1 : Twn} {a : α} {r : Res β} (h : x s = .ok a s1) (h2 : f a s1 = r) : M.bnd x f s = r := by
  rw [bnd_ok h]
  exact h2
theorem dat_ok {d : PyData} {s : Twn} : datOf (.dat d) s = .ok d s := rfl
theorem int_ok {i : Int} {s : Twn} : intOf (int i) s = .ok i s := rfl
theorem tru_ok {b : Bool} {s : Twn} : truth (bl b) s = .ok b s := rfl
theorem if_ok {α : Type} {c : Prop} [Decidable c] {x y : M α} {s : Twn} {r : Res α} (h : c) (h2 : x s = r) : (if c then x else y) s = r := by
  rw [if_pos h]
  exact h2
theorem if_no {α : Type} {c : Prop} [Decidable c] {x y : M α} {s : Twn} {r : Res α} (h : ¬ c) (h2 : y s = r) : (if c then x else y) s = r := by
  rw [if_neg h]
  exact h2
variable {G : Nat → Fun} {fu : Nat} {md : Bool} {env env' : Env} {s s1 s2 s3 : Twn}
theorem e_cst {d : PyData} : ev G md (.cst d) env s = .ok (.dat d) s := rfl
theorem e_gcon {x : Str} {d : PyData} : ev G md (.gcon x d) env s = .ok (.dat d) s := rfl
theorem e_fnc {i : Nat} : ev G md (.fnc i) env s = .ok (.fn i) s := rfl
theorem e_var {i : Nat} {d : D} (h : env[i]? = some (some (false, d))) : ev G md (.var i) env s = .ok d s := by
  simp only [ev, h, Bool.and_false]
  rfl
theorem e_varO {i : Nat} {o : Bool} {d : D} (h : env[i]? = some (some (o, d))) : ev G false (.var i) env s = .ok d s := by
  simp only [ev, h, Bool.false_and]
  rfl
theorem e_tup {es : CEs} {ds : List D} {ps : List PyData} (h : evs G es env s = .ok ds s1) (h2 : datL ds = some ps) (h3 : fits ps = true) : ev G md (.tup es) env s = .ok (tup ps) s1 := by
  simp only [ev, bind_eq]
  exact b_ok h (b_ok (of_ok h2) (if_ok h3 rfl))
theorem e_lst {es : CEs} {ds : List D} {ps : List PyData} (h : evs G es env s = .ok ds s1) (h2 : datL ds = some ps) (h3 : fits ps = true) : ev G md (.lst es) env s = .ok (lst ps) s1 := by
  simp only [ev, bind_eq]
  exact b_ok h (b_ok (of_ok h2) (if_ok h3 rfl))
theorem es_nil : evs G .nil env s = .ok [] s := rfl
theorem es_cons {e : CE} {r : CEs} {x : D} {xs : List D} (h1 : ev G true e env s = .ok x s1) (h2 : evs G r env s1 = .ok xs s2) : evs G (.cons e r) env s = .ok (x :: xs) s2 := by
  simp only [evs, bind_eq]
  exact b_ok h1 (b_ok h2 rfl)
theorem e_bin {o : BO} {a b : CE} {x y r : D} (h1 : ev G false a env s = .ok x s1) (h2 : ev G false b env s1 = .ok y s2) (h3 : opBin o x y = some r) : ev G md (.bin o a b) env s = .ok r s2 := by
  simp only [ev, bind_eq]
  exact b_ok h1 (b_ok h2 (of_ok h3))
theorem e_neg {a : CE} {i : Int} (h : ev G false a env s = .ok (int i) s1) : ev G md (.neg a) env s = .ok (int (-i)) s1 := by
  simp only [ev, bind_eq]
  exact b_ok h (b_ok int_ok rfl)
theorem e_cmp {o : CO} {a b : CE} {x y : D} {r : Bool} (h1 : ev G false a env s = .ok x s1) (h2 : ev G false b env s1 = .ok y s2) (h3 : opCmp o x y = some r) : ev G md (.cmp o a b) env s = .ok (bl r) s2 := by
  simp only [ev, bind_eq]
  exact b_ok h1 (b_ok h2 (b_ok (of_ok h3) rfl))
theorem e_isN {a : CE} {d : PyData} {b : Bool} (h : ev G false a env s = .ok (.dat d) s1) (h2 : (isNon d) = b) : ev G md (.isN a) env s = .ok (bl b) s1 := by
  simp only [ev, bind_eq]
  rw [← h2]
  exact b_ok h (b_ok dat_ok rfl)
theorem e_notN {a : CE} {d : PyData} {b : Bool} (h : ev G false a env s = .ok (.dat d) s1) (h2 : (!isNon d) = b) : ev G md (.notN a) env s = .ok (bl b) s1 := by
  simp only [ev, bind_eq]
  rw [← h2]
  exact b_ok h (b_ok dat_ok rfl)
theorem e_chn {a b c : CE} {i j k : Int} (h1 : ev G false a env s = .ok (int i) s1) (h2 : ev G false b env s1 = .ok (int j) s2) (h3 : ev G false c env s2 = .ok (int k) s2) : ev G md (.chn a b c) env s = .ok (bl (decide (i ≤ j) && decide (j ≤ k))) s2 := by
  simp only [ev, bind_eq]
  refine b_ok h1 (b_ok int_ok (b_ok h2 (b_ok int_ok ?_)))
  by_cases hc : i ≤ j
  · refine if_ok hc (b_ok h3 (b_ok int_ok ?_))
    rw [decide_eq_true hc, Bool.true_and]
    rfl
  · refine if_no hc ?_
    rw [decide_eq_false hc, Bool.false_and]
    rfl
theorem e_and {es : CEs} {r : Bool} (h : evAnd G es env s = .ok r s1) : ev G md (.and es) env s = .ok (bl r) s1 := by
  simp only [ev, bind_eq]
  exact b_ok h rfl
theorem e_or {es : CEs} {r : Bool} (h : evOr G es env s = .ok r s1) : ev G md (.or es) env s = .ok (bl r) s1 := by
  simp only [ev, bind_eq]
  exact b_ok h rfl
theorem an_nil : evAnd G .nil env s = .ok true s := rfl
theorem an_t {e : CE} {r : CEs} {b : Bool} (h1 : ev G true e env s = .ok (bl true) s1) (h2 : evAnd G r env s1 = .ok b s2) : evAnd G (.cons e r) env s = .ok b s2 := by
  simp only [evAnd, bind_eq]
  exact b_ok h1 (b_ok tru_ok (if_ok rfl h2))
theorem an_f {e : CE} {r : CEs} (h1 : ev G true e env s = .ok (bl false) s1) : evAnd G (.cons e r) env s = .ok false s1 := by
  simp only [evAnd, bind_eq]
  exact b_ok h1 (b_ok tru_ok (if_no Bool.false_ne_true rfl))
/-- the rest is whole, whatever the first -/
theorem an_c {e : CE} {r : CEs} {b c : Bool} (h1 : ev G true e env s = .ok (bl b) s1) (h2 : evAnd G r env s1 = .ok c s1) : evAnd G (.cons e r) env s = .ok (b && c) s1 := by
  cases b with
  | true => exact an_t h1 h2
  | false => exact an_f h1
theorem or_nil : evOr G .nil env s = .ok false s := rfl
theorem or_t {e : CE} {r : CEs} (h1 : ev G true e env s = .ok (bl true) s1) : evOr G (.cons e r) env s = .ok true s1 := by
  simp only [evOr, bind_eq]
  exact b_ok h1 (b_ok tru_ok (if_ok rfl rfl))
theorem or_f {e : CE} {r : CEs} {b : Bool} (h1 : ev G true e env s = .ok (bl false) s1) (h2 : evOr G r env s1 = .ok b s2) : evOr G (.cons e r) env s = .ok b s2 := by
  simp only [evOr, bind_eq]
  exact b_ok h1 (b_ok tru_ok (if_no Bool.false_ne_true h2))
theorem or_c {e : CE} {r : CEs} {b c : Bool} (h1 : ev G true e env s = .ok (bl b) s1) (h2 : evOr G r env s1 = .ok c s1) : evOr G (.cons e r) env s = .ok (b || c) s1 := by
  cases b with
  | true => exact or_t h1
  | false => exact or_f h1 h2
theorem e_not {a : CE} {b c : Bool} (h : ev G true a env s = .ok (bl b) s1) (h2 : (!b) = c) : ev G md (.not a) env s = .ok (bl c) s1 := by
  simp only [ev, bind_eq]
  rw [← h2]
  exact b_ok h (b_ok tru_ok rfl)
theorem e_iteT {c a b : CE} {d : D} (h : ev G true c env s = .ok (bl true) s1) (h2 : ev G md a env s1 = .ok d s2) : ev G md (.ite c a b) env s = .ok d s2 := by
  simp only [ev, bind_eq]
  exact b_ok h (b_ok tru_ok (if_ok rfl h2))
theorem e_iteF {c a b : CE} {d : D} (h : ev G true c env s = .ok (bl false) s1) (h2 : ev G md b env s1 = .ok d s2) : ev G md (.ite c a b) env s = .ok d s2 := by
  simp only [ev, bind_eq]
  exact b_ok h (b_ok tru_ok (if_no Bool.false_ne_true h2))
theorem e_idx {a b : CE} {x y r : D} (h1 : ev G false a env s = .ok x s1) (h2 : ev G false b env s1 = .ok y s2) (h3 : opIdx x y = some r) : ev G md (.idx a b) env s = .ok r s2 := by
  simp only [ev, bind_eq]
  exact b_ok h1 (b_ok h2 (of_ok h3))
theorem e_slL {a lo : CE} {x r : D} {i : Int} (h1 : ev G false a env s = .ok x s1) (h2 : ev G false lo env s1 = .ok (int i) s2) (h3 : opCut x (some i) none = some r) : ev G md (.slL a lo) env s = .ok r s2 := by
  simp only [ev, bind_eq]
  exact b_ok h1 (b_ok h2 (b_ok int_ok (of_ok h3)))
theorem e_slH {a lo : CE} {x r : D} {i : Int} (h1 : ev G false a env s = .ok x s1) (h2 : ev G false lo env s1 = .ok (int i) s2) (h3 : opCut x none (some i) = some r) : ev G md (.slH a lo) env s = .ok r s2 := by
  simp only [ev, bind_eq]
  exact b_ok h1 (b_ok h2 (b_ok int_ok (of_ok h3)))
theorem e_call {f : Nat} {es : CEs} {ds : List D} {d : D} (h1 : evs G es env s = .ok ds s1) (h2 : G f ds s1 = .ok d s2) : ev G md (.call f es) env s = .ok d s2 := by
  simp only [ev, bind_eq]
  exact b_ok h1 h2
theorem e_p1 {p : P1} {a : CE} {x r : D} (h1 : ev G false a env s = .ok x s1) (h2 : opP1 p x = some r) : ev G md (.p1 p a) env s = .ok r s1 := by
  simp only [ev, bind_eq]
  exact b_ok h1 (of_ok h2)
theorem e_isi {a : CE} {t : Ty} {d : PyData} {b : Bool} (h1 : ev G false a env s = .ok (.dat d) s1) (h2 : isTy t d = b) : ev G md (.isi a t) env s = .ok (bl b) s1 := by
  simp only [ev, bind_eq]
  rw [← h2]
  exact b_ok h1 (b_ok dat_ok rfl)
theorem e_lset {a : CE} {x r : D} (h1 : ev G false a env s = .ok x s1) (h2 : opLset x = some r) : ev G md (.lset a) env s = .ok r s1 := by
  simp only [ev, bind_eq]
  exact b_ok h1 (of_ok h2)
theorem e_lc {own : List Nat} {tg : Tg} {it : CI} {elt : CE} {xs r : List PyData} (h1 : evI G false it env s = .ok xs s1) (h2 : ownFree env own = true)
    (h3 : lcGo (fun x => M.nox (do
        let e ← M.of (bindTg tg x (wipeE env own))
        let y ← datOf (← ev G true elt e)
        M.ret (some y))) xs s1 = .ok r s2) (h4 : fits r = true) : ev G md (.lc own tg it elt) env s = .ok (lst r) s2 := by
  simp only [ev, bind_eq]
  exact b_ok h1 (if_ok h2 (b_ok h3 (if_ok h4 rfl)))
/-- turn for turn, by a function -/
theorem go_map {turn : PyData → M (Option PyData)} {f : PyData → PyData} : ∀ {xs : List PyData}, (∀ x ∈ xs, turn x s = .ok (some (f x)) s) → lcGo turn xs s = .ok (xs.map f) s
  | [], _ => rfl
  | x :: xs, h => by
    have ih := go_map (turn := turn) (f := f) (xs := xs) fun y hy => h y (List.mem_cons_of_mem _ hy)
    unfold lcGo
    simp only [bind_eq]
    exact b_ok (h x List.mem_cons_self) (b_ok ih rfl)
theorem go_mapG {α : Type} {g : α → PyData} {turn : PyData → M (Option PyData)} {f : α → PyData} : ∀ {xs : List α}, (∀ x ∈ xs, turn (g x) s = .ok (some (f x)) s) → lcGo turn (xs.map g) s = .ok (xs.map f) s
  | [], _ => rfl
  | x :: xs, h => by
    have ih := go_mapG (g := g) (turn := turn) (f := f) (xs := xs) fun y hy => h y (List.mem_cons_of_mem _ hy)
    rw [List.map_cons]
    unfold lcGo
    simp only [bind_eq]
    exact b_ok (h x List.mem_cons_self) (b_ok ih rfl)
theorem nox_ok {α : Type} {x : M α} {a : α} (h : x s = .ok a s1) : M.nox x s = .ok a s1 := by
  unfold M.nox
  rw [h]
theorem lc_turn {own : List Nat} {tg : Tg} {elt : CE} {x y : PyData} (h1 : bindTg tg x (wipeE env own) = some env') (h2 : ev G true elt env' s = .ok (.dat y) s1) :
    M.nox (do
        let e ← M.of (bindTg tg x (wipeE env own))
        let y ← datOf (← ev G true elt e)
        M.ret (some y)) s = .ok (some y) s1 := by
  refine nox_ok ?_
  simp only [bind_eq]
  exact b_ok (of_ok h1) (b_ok h2 (b_ok dat_ok rfl))
theorem i_seq {e : CE} {x : D} {ds : List PyData} (h1 : ev G md e env s = .ok x s1) (h2 : seqOf x = some ds) : evI G md (.seq e) env s = .ok ds s1 := by
  simp only [evI, bind_eq]
  exact b_ok h1 (of_ok h2)
theorem i_rng {e : CE} {n : Int} (h1 : ev G true e env s = .ok (int n) s1) (h2 : n ≤ 1000 ∧ -1000 ≤ n) : evI G md (.rng e) env s = .ok (rngD n) s1 := by
  simp only [evI, bind_eq]
  exact b_ok h1 (b_ok int_ok (if_ok h2 rfl))
/-! ### statements -/
theorem x_asg {i : Nat} {e : CE} {d : D} (h : ev G true e env s = .ok d s1) : ex G fu (.asg (.v i) e) env s = .ok (.nx (setE env i d)) s1 := by
  simp only [ex, bind_eq]
  exact b_ok h rfl
theorem x_own {i : Nat} {e : CE} {d : D} (h : ev G true e env s = .ok d s1) : ex G fu (.own i e) env s = .ok (.nx (env.set i (some (true, d)))) s1 := by
  simp only [ex, bind_eq]
  exact b_ok h rfl
theorem x_par {is : List Nat} {es : CEs} {ds : List D} (h : evs G es env s = .ok ds s1) (hl : ds.length = is.length) : ex G fu (.par is es) env s = .ok (.nx (parE is ds env)) s1 := by
  simp only [ex, bind_eq]
  exact b_ok h (if_ok hl rfl)
theorem x_sto {i : Nat} {k e : CE} {d y : PyData} {m m' : D} (h1 : ev G true e env s = .ok (.dat d) s1) (h2 : ownD env i = some m) (h3 : ev G true k env s1 = .ok (.dat y) s2) (h4 : stoD m y d = some m') : ex G fu (.sto i k e) env s = .ok (.nx (env.set i (some (true, m')))) s2 := by
  simp only [ex, bind_eq]
  exact b_ok h1 (b_ok dat_ok (b_ok (of_ok h2) (b_ok h3 (b_ok dat_ok (b_ok (of_ok h4) rfl)))))
theorem x_ext {i : Nat} {e : CE} {xs ys : List PyData} (h2 : ownL env i = some xs) (h1 : ev G true e env s = .ok (lst ys) s1) (h4 : xs.length + ys.length ≤ sizeLine) : ex G fu (.ext i e) env s = .ok (.nx (env.set i (some (true, lst (xs ++ ys))))) s1 := by
  simp only [ex, bind_eq]
  exact b_ok (of_ok h2) (b_ok h1 (b_ok (of_ok rfl) (if_ok h4 rfl)))
theorem x_iffT {c : CE} {a b : CSs} {r : Res Fl} (h : ev G true c env s = .ok (bl true) s1) (h2 : exs G fu a env s1 = r) : ex G fu (.iff c a b) env s = r := by
  simp only [ex, bind_eq]
  exact b_ok h (b_ok tru_ok (if_ok rfl h2))
theorem x_iffF {c : CE} {a b : CSs} {r : Res Fl} (h : ev G true c env s = .ok (bl false) s1) (h2 : exs G fu b env s1 = r) : ex G fu (.iff c a b) env s = r := by
  simp only [ex, bind_eq]
  exact b_ok h (b_ok tru_ok (if_no Bool.false_ne_true h2))
theorem x_ret {e : CE} {d : D} (h : ev G true e env s = .ok d s1) : ex G fu (.ret e) env s = .ok (.rt d) s1 := by
  simp only [ex, bind_eq]
  exact b_ok h rfl
theorem x_exp {e : CE} {d : D} (h : ev G true e env s = .ok d s1) : ex G fu (.exp e) env s = .ok (.nx env) s1 := by
  simp only [ex, bind_eq]
  exact b_ok h rfl
theorem x_frz {is : List Nat} : ex G fu (.frz is) env s = .ok (.nx (frzE env is)) s := rfl
theorem x_for {tg : Tg} {it : CI} {body : CSs} {xs : List PyData} {r : Res Fl} (h : evI G true it env s = .ok xs s1) (h2 : forGo (fun x env => do
      let env' ← M.of (bindTg tg x env)
      exs G fu body env') xs env s1 = r) : ex G fu (.for tg it body) env s = r := by
  simp only [ex, bind_eq]
  exact b_ok h h2
theorem xs_nil : exs G fu .nil env s = .ok (.nx env) s := rfl
theorem xs_nx {c : CS} {r : CSs} {q : Res Fl} (h1 : ex G fu c env s = .ok (.nx env') s1) (h2 : exs G fu r env' s1 = q) : exs G fu (.cons c r) env s = q := by
  simp only [exs, bind_eq]
  exact b_ok h1 h2
theorem xs_rt {c : CS} {r : CSs} {d : D} (h1 : ex G fu c env s = .ok (.rt d) s1) : exs G fu (.cons c r) env s = .ok (.rt d) s1 := by
  simp only [exs, bind_eq]
  exact b_ok h1 rfl
/-- one statement that goes on or returns -/
theorem xs_one {c : CS} {q : Res Fl} (h1 : ex G fu c env s = q) (hq : ∀ c s, q ≠ .exc c s) : exs G fu (.cons c .nil) env s = q := by
  simp only [exs, bind_eq]
  unfold M.bnd
  rw [h1]
  cases q with
  | ok fl s' => cases fl <;> rfl
  | exc c s' => exact absurd rfl (hq c s')
  | stuck => rfl
/-- the loop, without a return: an invariant by the turn, the state may move -/
theorem for_inv {turn : PyData → Env → M Fl} {xs : List PyData} (I : Nat → Env → Twn → Prop) (h0 : I 0 env s) (hs : ∀ i x env s, xs[i]? = some x → I i env s → ∃ env' s', turn x env s = .ok (.nx env') s' ∧ I (i + 1) env' s') :
    ∃ env' s', forGo turn xs env s = .ok (.nx env') s' ∧ I xs.length env' s' := by
  induction xs generalizing env s I with
  | nil => exact ⟨env, s, rfl, h0⟩
  | cons x xs ih =>
    obtain ⟨env1, s1, h1, i1⟩ := hs 0 x env s rfl h0
    obtain ⟨env2, s2, h2, i2⟩ := ih (fun i => I (i + 1)) i1 fun i y env s hy hi => hs (i + 1) y env s (by simpa using hy) hi
    refine ⟨env2, s2, ?_, i2⟩
    unfold forGo
    simp only [bind_eq]
    exact b_ok h1 h2
/-- the first turn that returns; all before it go on and leave I -/
theorem for_find {α : Type} {g : α → PyData} {turn : PyData → Env → M Fl} {p : α → Bool} {res : α → D} (I : Env → Prop) : ∀ {xs : List α} {env : Env}, I env → (∀ x ∈ xs, ∀ env, I env → (p x = true → turn (g x) env s = .ok (.rt (res x)) s) ∧ (p x = false → ∃ env', turn (g x) env s = .ok (.nx env') s ∧ I env')) →
    (∀ x, xs.find? p = some x → forGo turn (xs.map g) env s = .ok (.rt (res x)) s) ∧ (xs.find? p = none → ∃ env', forGo turn (xs.map g) env s = .ok (.nx env') s ∧ I env')
  | [], env, h0, _ => ⟨fun x h => by simp at h, fun _ => ⟨env, rfl, h0⟩⟩
  | x :: xs, env, h0, hs => by
    obtain ⟨a1, a2⟩ := hs x List.mem_cons_self env h0
    cases hp : p x with
    | true =>
      refine ⟨fun y hy => ?_, fun hn => ?_⟩
      · rw [List.find?_cons, hp] at hy
        cases hy
        rw [List.map_cons]
        unfold forGo
        simp only [bind_eq]
        exact b_ok (a1 hp) rfl
      · rw [List.find?_cons, hp] at hn
        cases hn
    | false =>
      obtain ⟨env1, h1, i1⟩ := a2 hp
      obtain ⟨b1, b2⟩ := for_find (turn := turn) (p := p) (res := res) I (xs := xs) i1 fun y hy => hs y (List.mem_cons_of_mem _ hy)
      refine ⟨fun y hy => ?_, fun hn => ?_⟩
      · rw [List.find?_cons, hp] at hy
        rw [List.map_cons]
        unfold forGo
        simp only [bind_eq]
        exact b_ok h1 (b1 y hy)
      · rw [List.find?_cons, hp] at hn
        obtain ⟨env2, h2, i2⟩ := b2 hn
        refine ⟨env2, ?_, i2⟩
        rw [List.map_cons]
        unfold forGo
        simp only [bind_eq]
        exact b_ok h1 h2
/-- a def -/
theorem r_fn {f : CF} {ds : List D} {d : D} (hl : ds.length = f.np) (h : exs G fu f.body (ds.map (fun d => some (false, d)) ++ List.replicate (f.ns - f.np) none) s = .ok (.rt d) s1) : runF G fu f ds s = .ok d s1 := by
  unfold runF
  rw [if_pos hl]
  simp only [bind_eq]
  exact b_ok h rfl
theorem r_fnN {f : CF} {ds : List D} (hl : ds.length = f.np) (h : exs G fu f.body (ds.map (fun d => some (false, d)) ++ List.replicate (f.ns - f.np) none) s = .ok (.nx env) s1) : runF G fu f ds s = .ok non s1 := by
  unfold runF
  rw [if_pos hl]
  simp only [bind_eq]
  exact b_ok h rfl
end BK
set_option Elab.async false
set_option linter.all false
set_option maxRecDepth 100000
set_option maxHeartbeats 2000000
/-! What the draws give, in plain words. -/
namespace BK
open PySem
def TwOk (scr : List Int) (s : Twn) : Prop := (∀ p ∈ s.rests, 0 ≤ p.1 ∧ p.1 < (max 1 scr.length : Nat)) ∧ (s.rests.map (·.1)).Nodup
theorem TwOk.len {scr : List Int} {s : Twn} (h : TwOk scr s) : s.rests.length ≤ max 1 scr.length := by
  have h1 := List.Nodup.length_le_of_subset (l₂ := (List.range (max 1 scr.length)).map fun (i : Nat) => (i : Int)) h.2 (fun k hk => by
    obtain ⟨p, hp, rfl⟩ := List.mem_map.mp hk
    obtain ⟨a, b⟩ := h.1 p hp
    refine List.mem_map.mpr ⟨p.1.toNat, List.mem_range.mpr (by omega), by omega⟩)
  simpa using h1
theorem putR_keys (rs : List (Int × Int)) (k v : Int) : (putR rs k v).map (·.1) = if k ∈ rs.map (·.1) then rs.map (·.1) else rs.map (·.1) ++ [k] := by
  unfold putR
  by_cases h : k ∈ rs.map (·.1)
  · rw [if_pos h]
    obtain ⟨p, hp, e⟩ := List.mem_map.mp h
    have : (rs.any fun p => decide (p.1 = k)) = true := List.any_eq_true.mpr ⟨p, hp, decide_eq_true e⟩
    rw [if_pos this, List.map_map]
    congr 1
    funext q
    simp only [Function.comp]
    split <;> rfl
  · rw [if_neg h]
    have : ¬ (rs.any fun p => decide (p.1 = k)) = true := fun z => by
      obtain ⟨p, hp, e⟩ := List.any_eq_true.mp z
      exact h (List.mem_map.mpr ⟨p, hp, of_decide_eq_true e⟩)
    rw [if_neg this, List.map_append]
    rfl
theorem drawAt_ok (scr : List Int) (c : Int) : 0 ≤ drawAt scr c ∧ drawAt scr c < (max 1 scr.length : Nat) := by
  unfold drawAt
  split
  · omega
  · rename_i h
    have hl : 0 < scr.length := List.length_pos_iff.mpr h
    have h0 : 0 ≤ c % (scr.length : Int) := Int.emod_nonneg _ (by omega)
    have h1 : c % (scr.length : Int) < scr.length := Int.emod_lt_of_pos _ (by omega)
    omega
theorem put_tw {scr : List Int} {s : Twn} (h : TwOk scr s) (k v c : Int) (hk : 0 ≤ k ∧ k < (max 1 scr.length : Nat)) : TwOk scr ⟨c, putR s.rests k v⟩ := by
  have e := putR_keys s.rests k v
  have key : ∀ x : Int, x ∈ (putR s.rests k v).map (fun p => p.1) → 0 ≤ x ∧ x < (max 1 scr.length : Nat) := by
    intro x hx
    rw [e] at hx
    have old : x ∈ s.rests.map (fun p => p.1) → 0 ≤ x ∧ x < (max 1 scr.length : Nat) := fun hx => by
      obtain ⟨p, hp, rfl⟩ := List.mem_map.mp hx
      exact h.1 p hp
    split at hx
    · exact old hx
    · rcases List.mem_append.mp hx with hx | hx
      · exact old hx
      · rw [List.mem_singleton.mp hx]
        exact hk
  refine ⟨fun p hp => key _ (List.mem_map.mpr ⟨p, hp, rfl⟩), ?_⟩
  show ((putR s.rests k v).map (·.1)).Nodup
  rw [e]
  split
  · exact h.2
  · rename_i hn
    exact List.nodup_append.mpr ⟨h.2, by simp, fun a ha b hb => by
      rw [List.mem_singleton.mp hb]
      intro z
      exact hn (z ▸ ha)⟩
theorem draw_ok {scr : List Int} {s : Twn} {many : Int} (hl : scr.length ≤ 63) (h : TwOk scr s) (h0 : 0 < many) (h1 : many ≤ 1000) : ∃ v s', drawF scr [.scr, .town, int many] s = .ok (int v) s' ∧ 0 ≤ v ∧ v < many ∧ TwOk scr s' := by
  have hr := h.len
  refine ⟨drawV scr s many, drawN scr s many, ?_, ?_, ?_, ?_⟩
  · unfold drawF
    simp only [bind_eq]
    refine b_ok (of_ok rfl) ?_
    unfold drawM
    rw [if_pos ⟨h0, h1, by omega, by omega⟩]
  · unfold drawV
    split
    · exact Int.emod_nonneg _ (by omega)
    · exact Int.emod_nonneg _ (by omega)
  · unfold drawV
    split
    · exact Int.emod_lt_of_pos _ h0
    · exact Int.emod_lt_of_pos _ h0
  · unfold drawN
    split
    · exact put_tw h _ _ _ (drawAt_ok _ _)
    · exact h
/-- as a natural number -/
theorem draw_nat {scr : List Int} {s : Twn} {m : Nat} (hl : scr.length ≤ 63) (h : TwOk scr s) (h0 : 0 < m) (h1 : m ≤ 1000) : ∃ (v : Nat) (s' : Twn), drawF scr [.scr, .town, int (m : Int)] s = .ok (int (v : Int)) s' ∧ v < m ∧ TwOk scr s' := by
  obtain ⟨v, s', e, a, b, t⟩ := draw_ok (many := (m : Int)) hl h (by omega) (by omega)
  obtain ⟨k, rfl⟩ := Int.eq_ofNat_of_zero_le a
  exact ⟨k, s', e, by omega, t⟩
theorem tw_begin (scr : List Int) : TwOk scr ⟨0, []⟩ := ⟨fun p h => (by cases h), List.nodup_nil⟩
end BK
set_option Elab.async false
set_option linter.all false
set_option maxRecDepth 100000
set_option maxHeartbeats 4000000
namespace K03
open PySem BK L2
def top (i : Nat) : Stmt := PySem.Challenge.pw_backsteps_k03_whole_actions.main.body.getD i (.Pass ⟨0, 0, 0, 0⟩)
abbrev CN : List (Str × PyData) := []
abbrev nms0 : List Str := []
abbrev fs0 : List (List Int → Fun) := []
abbrev s_is_between : Stmt := top 6
abbrev n_is_between : List Str := ["value", "low", "high"]
abbrev p_is_between : List Str := ["value", "low", "high"]
def c_is_between : CF := ⟨3, 3,
    (.cons (.ret (.and (.cons (.isi (.var 0) .int) (.cons (.not (.isi (.var 0) .bool)) (.cons (.chn (.var 1) (.var 0) (.var 2)) .nil)))))
    .nil)⟩
def f_is_between (scr : List Int) : Fun := runF (callD fs0 scr) 64 c_is_between
theorem k_is_between : ckSs ⟨n_is_between, nms0, CN⟩ (defScope s_is_between) c_is_between.body (defBody s_is_between) = true := by decide +kernel
theorem sc_is_between : FnScope n_is_between p_is_between (defScope s_is_between) := ⟨rfl, rfl, rfl, by decide +kernel, rfl, by decide +kernel, by decide +kernel⟩
abbrev nms1 : List Str := nms0 ++ [("is_between" : Str)]
abbrev fs1 : List (List Int → Fun) := fs0 ++ [f_is_between]
abbrev s_check_items : Stmt := top 7
abbrev n_check_items : List Str := ["items"]
abbrev p_check_items : List Str := ["items"]
def c_check_items : CF := ⟨1, 1,
    (.cons (.iff (.not (.call 0 (.cons (.var 0) (.cons (.cst (PyData.int 1)) (.cons (.cst (PyData.int 3)) .nil)))))
    (.cons .stk
    .nil)
    .nil)
    .nil)⟩
def f_check_items (scr : List Int) : Fun := runF (callD fs1 scr) 64 c_check_items
theorem k_check_items : ckSs ⟨n_check_items, nms1, CN⟩ (defScope s_check_items) c_check_items.body (defBody s_check_items) = true := by decide +kernel
theorem sc_check_items : FnScope n_check_items p_check_items (defScope s_check_items) := ⟨rfl, rfl, rfl, by decide +kernel, rfl, by decide +kernel, by decide +kernel⟩
theorem cd_1_0 (scr : List Int) : callD fs1 scr 0 = f_is_between scr := rfl
abbrev nms2 : List Str := nms1 ++ [("check_items" : Str)]
abbrev fs2 : List (List Int → Fun) := fs1 ++ [f_check_items]
abbrev s_is_state_of : Stmt := top 8
abbrev n_is_state_of : List Str := ["items", "value", "one"]
abbrev p_is_state_of : List Str := ["items", "value"]
def c_is_state_of : CF := ⟨2, 3,
    (.cons (.ret (.and (.cons (.isi (.var 1) .tuple) (.cons (.cmp .eq (.p1 .len (.var 1)) (.var 0)) (.cons (.p1 .all (.lc [2] (.v 2) (.seq (.var 1)) (.call 0 (.cons (.var 2) (.cons (.cst (PyData.int 0)) (.cons (.cst (PyData.int 2)) .nil)))))) .nil)))))
    .nil)⟩
def f_is_state_of (scr : List Int) : Fun := runF (callD fs2 scr) 64 c_is_state_of
theorem k_is_state_of : ckSs ⟨n_is_state_of, nms2, CN⟩ (defScope s_is_state_of) c_is_state_of.body (defBody s_is_state_of) = true := by decide +kernel
theorem sc_is_state_of : FnScope n_is_state_of p_is_state_of (defScope s_is_state_of) := ⟨rfl, rfl, rfl, by decide +kernel, rfl, by decide +kernel, by decide +kernel⟩
theorem cd_2_0 (scr : List Int) : callD fs2 scr 0 = f_is_between scr := rfl
abbrev nms3 : List Str := nms2 ++ [("is_state_of" : Str)]
abbrev fs3 : List (List Int → Fun) := fs2 ++ [f_is_state_of]
abbrev s_is_operation : Stmt := top 9
abbrev n_is_operation : List Str := ["items", "value"]
abbrev p_is_operation : List Str := ["items", "value"]
def c_is_operation : CF := ⟨2, 2,
    (.cons (.iff (.or (.cons (.not (.isi (.var 1) .tuple)) (.cons (.cmp .ne (.p1 .len (.var 1)) (.cst (PyData.int 3))) (.cons (.not (.call 0 (.cons (.idx (.var 1) (.cst (PyData.int 1))) (.cons (.cst (PyData.int 0)) (.cons (.bin .sub (.var 0) (.cst (PyData.int 1))) .nil))))) .nil))))
    (.cons (.ret (.cst (PyData.bool false)))
    .nil)
    .nil)
    (.cons (.iff (.not (.isi (.idx (.var 1) (.cst (PyData.int 0))) .str))
    (.cons (.ret (.cst (PyData.bool false)))
    .nil)
    .nil)
    (.cons (.iff (.cmp .eq (.idx (.var 1) (.cst (PyData.int 0))) (.cst (PyData.str ("set" : Str))))
    (.cons (.ret (.call 0 (.cons (.idx (.var 1) (.cst (PyData.int 2))) (.cons (.cst (PyData.int 0)) (.cons (.cst (PyData.int 2)) .nil)))))
    .nil)
    .nil)
    (.cons (.iff (.cmp .eq (.idx (.var 1) (.cst (PyData.int 0))) (.cst (PyData.str ("add" : Str))))
    (.cons (.ret (.call 0 (.cons (.idx (.var 1) (.cst (PyData.int 2))) (.cons (.cst (PyData.int 1)) (.cons (.cst (PyData.int 2)) .nil)))))
    .nil)
    .nil)
    (.cons (.ret (.and (.cons (.cmp .eq (.idx (.var 1) (.cst (PyData.int 0))) (.cst (PyData.str ("copy" : Str)))) (.cons (.call 0 (.cons (.idx (.var 1) (.cst (PyData.int 2))) (.cons (.cst (PyData.int 0)) (.cons (.bin .sub (.var 0) (.cst (PyData.int 1))) .nil)))) (.cons (.cmp .ne (.idx (.var 1) (.cst (PyData.int 1))) (.idx (.var 1) (.cst (PyData.int 2)))) .nil)))))
    .nil)))))⟩
def f_is_operation (scr : List Int) : Fun := runF (callD fs3 scr) 64 c_is_operation
theorem k_is_operation : ckSs ⟨n_is_operation, nms3, CN⟩ (defScope s_is_operation) c_is_operation.body (defBody s_is_operation) = true := by decide +kernel
theorem sc_is_operation : FnScope n_is_operation p_is_operation (defScope s_is_operation) := ⟨rfl, rfl, rfl, by decide +kernel, rfl, by decide +kernel, by decide +kernel⟩
theorem cd_3_0 (scr : List Int) : callD fs3 scr 0 = f_is_between scr := rfl
abbrev nms4 : List Str := nms3 ++ [("is_operation" : Str)]
abbrev fs4 : List (List Int → Fun) := fs3 ++ [f_is_operation]
abbrev s_is_action_of : Stmt := top 10
abbrev n_is_action_of : List Str := ["items", "value", "one"]
abbrev p_is_action_of : List Str := ["items", "value"]
def c_is_action_of : CF := ⟨2, 3,
    (.cons (.ret (.and (.cons (.isi (.var 1) .tuple) (.cons (.cmp .le (.p1 .len (.var 1)) (.cst (PyData.int 3))) (.cons (.p1 .all (.lc [2] (.v 2) (.seq (.var 1)) (.call 3 (.cons (.var 0) (.cons (.var 2) .nil))))) .nil)))))
    .nil)⟩
def f_is_action_of (scr : List Int) : Fun := runF (callD fs4 scr) 64 c_is_action_of
theorem k_is_action_of : ckSs ⟨n_is_action_of, nms4, CN⟩ (defScope s_is_action_of) c_is_action_of.body (defBody s_is_action_of) = true := by decide +kernel
theorem sc_is_action_of : FnScope n_is_action_of p_is_action_of (defScope s_is_action_of) := ⟨rfl, rfl, rfl, by decide +kernel, rfl, by decide +kernel, by decide +kernel⟩
theorem cd_4_3 (scr : List Int) : callD fs4 scr 3 = f_is_operation scr := rfl
abbrev nms5 : List Str := nms4 ++ [("is_action_of" : Str)]
abbrev fs5 : List (List Int → Fun) := fs4 ++ [f_is_action_of]
abbrev s_check_action : Stmt := top 11
abbrev n_check_action : List Str := ["items", "action"]
abbrev p_check_action : List Str := ["items", "action"]
def c_check_action : CF := ⟨2, 2,
    (.cons (.iff (.not (.call 4 (.cons (.var 0) (.cons (.var 1) .nil))))
    (.cons .stk
    .nil)
    .nil)
    .nil)⟩
def f_check_action (scr : List Int) : Fun := runF (callD fs5 scr) 64 c_check_action
theorem k_check_action : ckSs ⟨n_check_action, nms5, CN⟩ (defScope s_check_action) c_check_action.body (defBody s_check_action) = true := by decide +kernel
theorem sc_check_action : FnScope n_check_action p_check_action (defScope s_check_action) := ⟨rfl, rfl, rfl, by decide +kernel, rfl, by decide +kernel, by decide +kernel⟩
theorem cd_5_4 (scr : List Int) : callD fs5 scr 4 = f_is_action_of scr := rfl
abbrev nms6 : List Str := nms5 ++ [("check_action" : Str)]
abbrev fs6 : List (List Int → Fun) := fs5 ++ [f_check_action]
abbrev s_applied : Stmt := top 12
abbrev n_applied : List Str := ["action", "state", "found", "name", "item", "value"]
abbrev p_applied : List Str := ["action", "state"]
def c_applied : CF := ⟨2, 6,
    (.cons (.own 2 (.p1 .list (.var 1)))
    (.cons (.for (.t [(.v 3), (.v 4), (.v 5)]) (.seq (.var 0))
    (.cons (.iff (.cmp .eq (.var 3) (.cst (PyData.str ("set" : Str))))
    (.cons (.sto 2 (.var 4) (.var 5))
    .nil)
    (.cons (.iff (.cmp .eq (.var 3) (.cst (PyData.str ("add" : Str))))
    (.cons (.sto 2 (.var 4) (.bin .mod (.bin .add (.idx (.var 2) (.var 4)) (.var 5)) (.cst (PyData.int 3))))
    .nil)
    (.cons (.sto 2 (.var 5) (.idx (.var 2) (.var 4)))
    .nil))
    .nil))
    .nil))
    (.cons (.ret (.p1 .tuple (.var 2)))
    .nil)))⟩
def f_applied (scr : List Int) : Fun := runF (callD fs6 scr) 64 c_applied
theorem k_applied : ckSs ⟨n_applied, nms6, CN⟩ (defScope s_applied) c_applied.body (defBody s_applied) = true := by decide +kernel
theorem sc_applied : FnScope n_applied p_applied (defScope s_applied) := ⟨rfl, rfl, rfl, by decide +kernel, rfl, by decide +kernel, by decide +kernel⟩
abbrev nms7 : List Str := nms6 ++ [("applied" : Str)]
abbrev fs7 : List (List Int → Fun) := fs6 ++ [f_applied]
abbrev s_after : Stmt := top 13
abbrev n_after : List Str := ["items", "action", "state"]
abbrev p_after : List Str := ["items", "action", "state"]
def c_after : CF := ⟨3, 3,
    (.cons (.exp (.call 1 (.cons (.var 0) .nil)))
    (.cons (.exp (.call 5 (.cons (.var 0) (.cons (.var 1) .nil))))
    (.cons (.iff (.not (.call 2 (.cons (.var 0) (.cons (.var 2) .nil))))
    (.cons .stk
    .nil)
    .nil)
    (.cons (.ret (.call 6 (.cons (.var 1) (.cons (.var 2) .nil))))
    .nil))))⟩
def f_after (scr : List Int) : Fun := runF (callD fs7 scr) 64 c_after
theorem k_after : ckSs ⟨n_after, nms7, CN⟩ (defScope s_after) c_after.body (defBody s_after) = true := by decide +kernel
theorem sc_after : FnScope n_after p_after (defScope s_after) := ⟨rfl, rfl, rfl, by decide +kernel, rfl, by decide +kernel, by decide +kernel⟩
theorem cd_7_1 (scr : List Int) : callD fs7 scr 1 = f_check_items scr := rfl
theorem cd_7_2 (scr : List Int) : callD fs7 scr 2 = f_is_state_of scr := rfl
theorem cd_7_5 (scr : List Int) : callD fs7 scr 5 = f_check_action scr := rfl
theorem cd_7_6 (scr : List Int) : callD fs7 scr 6 = f_applied scr := rfl
abbrev nms8 : List Str := nms7 ++ [("after" : Str)]
abbrev fs8 : List (List Int → Fun) := fs7 ++ [f_after]
abbrev s_states_of : Stmt := top 14
abbrev n_states_of : List Str := ["items", "rows", "turn", "longer", "row", "value"]
abbrev p_states_of : List Str := ["items"]
def c_states_of : CF := ⟨1, 6,
    (.cons (.asg (.v 1) (.lst (.cons (.tup .nil) .nil)))
    (.cons (.for (.v 2) (.rng (.var 0))
    (.cons (.own 3 (.lst .nil))
    (.cons (.for (.v 4) (.seq (.var 1))
    (.cons (.ext 3 (.lc [5] (.v 5) (.rng (.cst (PyData.int 3))) (.bin .add (.var 4) (.tup (.cons (.var 5) .nil)))))
    .nil))
    (.cons (.frz [3])
    (.cons (.asg (.v 1) (.var 3))
    .nil)))))
    (.cons (.ret (.var 1))
    .nil)))⟩
def f_states_of (scr : List Int) : Fun := runF (callD fs8 scr) 64 c_states_of
theorem k_states_of : ckSs ⟨n_states_of, nms8, CN⟩ (defScope s_states_of) c_states_of.body (defBody s_states_of) = true := by decide +kernel
theorem sc_states_of : FnScope n_states_of p_states_of (defScope s_states_of) := ⟨rfl, rfl, rfl, by decide +kernel, rfl, by decide +kernel, by decide +kernel⟩
abbrev nms9 : List Str := nms8 ++ [("states_of" : Str)]
abbrev fs9 : List (List Int → Fun) := fs8 ++ [f_states_of]
abbrev s_all_states : Stmt := top 15
abbrev n_all_states : List Str := ["items"]
abbrev p_all_states : List Str := ["items"]
def c_all_states : CF := ⟨1, 1,
    (.cons (.exp (.call 1 (.cons (.var 0) .nil)))
    (.cons (.ret (.p1 .tuple (.call 8 (.cons (.var 0) .nil))))
    .nil))⟩
def f_all_states (scr : List Int) : Fun := runF (callD fs9 scr) 64 c_all_states
theorem k_all_states : ckSs ⟨n_all_states, nms9, CN⟩ (defScope s_all_states) c_all_states.body (defBody s_all_states) = true := by decide +kernel
theorem sc_all_states : FnScope n_all_states p_all_states (defScope s_all_states) := ⟨rfl, rfl, rfl, by decide +kernel, rfl, by decide +kernel, by decide +kernel⟩
theorem cd_9_1 (scr : List Int) : callD fs9 scr 1 = f_check_items scr := rfl
theorem cd_9_8 (scr : List Int) : callD fs9 scr 8 = f_states_of scr := rfl
abbrev nms10 : List Str := nms9 ++ [("all_states" : Str)]
abbrev fs10 : List (List Int → Fun) := fs9 ++ [f_all_states]
abbrev s_first_unlike : Stmt := top 16
abbrev n_first_unlike : List Str := ["items", "one", "other", "state"]
abbrev p_first_unlike : List Str := ["items", "one", "other"]
def c_first_unlike : CF := ⟨3, 4,
    (.cons (.for (.v 3) (.seq (.call 8 (.cons (.var 0) .nil)))
    (.cons (.iff (.cmp .ne (.call 6 (.cons (.var 1) (.cons (.var 3) .nil))) (.call 6 (.cons (.var 2) (.cons (.var 3) .nil))))
    (.cons (.ret (.var 3))
    .nil)
    .nil)
    .nil))
    (.cons (.ret (.cst PyData.none))
    .nil))⟩
def f_first_unlike (scr : List Int) : Fun := runF (callD fs10 scr) 64 c_first_unlike
theorem k_first_unlike : ckSs ⟨n_first_unlike, nms10, CN⟩ (defScope s_first_unlike) c_first_unlike.body (defBody s_first_unlike) = true := by decide +kernel
theorem sc_first_unlike : FnScope n_first_unlike p_first_unlike (defScope s_first_unlike) := ⟨rfl, rfl, rfl, by decide +kernel, rfl, by decide +kernel, by decide +kernel⟩
theorem cd_10_6 (scr : List Int) : callD fs10 scr 6 = f_applied scr := rfl
theorem cd_10_8 (scr : List Int) : callD fs10 scr 8 = f_states_of scr := rfl
abbrev nms11 : List Str := nms10 ++ [("first_unlike" : Str)]
abbrev fs11 : List (List Int → Fun) := fs10 ++ [f_first_unlike]
abbrev s_repeat_state : Stmt := top 17
abbrev n_repeat_state : List Str := ["items", "action"]
abbrev p_repeat_state : List Str := ["items", "action"]
def c_repeat_state : CF := ⟨2, 2,
    (.cons (.exp (.call 1 (.cons (.var 0) .nil)))
    (.cons (.exp (.call 5 (.cons (.var 0) (.cons (.var 1) .nil))))
    (.cons (.ret (.call 10 (.cons (.var 0) (.cons (.var 1) (.cons (.bin .add (.var 1) (.var 1)) .nil)))))
    .nil)))⟩
def f_repeat_state (scr : List Int) : Fun := runF (callD fs11 scr) 64 c_repeat_state
theorem k_repeat_state : ckSs ⟨n_repeat_state, nms11, CN⟩ (defScope s_repeat_state) c_repeat_state.body (defBody s_repeat_state) = true := by decide +kernel
theorem sc_repeat_state : FnScope n_repeat_state p_repeat_state (defScope s_repeat_state) := ⟨rfl, rfl, rfl, by decide +kernel, rfl, by decide +kernel, by decide +kernel⟩
theorem cd_11_1 (scr : List Int) : callD fs11 scr 1 = f_check_items scr := rfl
theorem cd_11_5 (scr : List Int) : callD fs11 scr 5 = f_check_action scr := rfl
theorem cd_11_10 (scr : List Int) : callD fs11 scr 10 = f_first_unlike scr := rfl
abbrev nms12 : List Str := nms11 ++ [("repeat_state" : Str)]
abbrev fs12 : List (List Int → Fun) := fs11 ++ [f_repeat_state]
abbrev s_exchange_state : Stmt := top 18
abbrev n_exchange_state : List Str := ["items", "one", "other"]
abbrev p_exchange_state : List Str := ["items", "one", "other"]
def c_exchange_state : CF := ⟨3, 3,
    (.cons (.exp (.call 1 (.cons (.var 0) .nil)))
    (.cons (.exp (.call 5 (.cons (.var 0) (.cons (.var 1) .nil))))
    (.cons (.exp (.call 5 (.cons (.var 0) (.cons (.var 2) .nil))))
    (.cons (.ret (.call 10 (.cons (.var 0) (.cons (.bin .add (.var 1) (.var 2)) (.cons (.bin .add (.var 2) (.var 1)) .nil)))))
    .nil))))⟩
def f_exchange_state (scr : List Int) : Fun := runF (callD fs12 scr) 64 c_exchange_state
theorem k_exchange_state : ckSs ⟨n_exchange_state, nms12, CN⟩ (defScope s_exchange_state) c_exchange_state.body (defBody s_exchange_state) = true := by decide +kernel
theorem sc_exchange_state : FnScope n_exchange_state p_exchange_state (defScope s_exchange_state) := ⟨rfl, rfl, rfl, by decide +kernel, rfl, by decide +kernel, by decide +kernel⟩
theorem cd_12_1 (scr : List Int) : callD fs12 scr 1 = f_check_items scr := rfl
theorem cd_12_5 (scr : List Int) : callD fs12 scr 5 = f_check_action scr := rfl
theorem cd_12_10 (scr : List Int) : callD fs12 scr 10 = f_first_unlike scr := rfl
abbrev nms13 : List Str := nms12 ++ [("exchange_state" : Str)]
abbrev fs13 : List (List Int → Fun) := fs12 ++ [f_exchange_state]
abbrev s_back_state : Stmt := top 19
abbrev n_back_state : List Str := ["items", "action", "back"]
abbrev p_back_state : List Str := ["items", "action", "back"]
def c_back_state : CF := ⟨3, 3,
    (.cons (.exp (.call 1 (.cons (.var 0) .nil)))
    (.cons (.exp (.call 5 (.cons (.var 0) (.cons (.var 1) .nil))))
    (.cons (.exp (.call 5 (.cons (.var 0) (.cons (.var 2) .nil))))
    (.cons (.ret (.call 10 (.cons (.var 0) (.cons (.bin .add (.var 1) (.var 2)) (.cons (.tup .nil) .nil)))))
    .nil))))⟩
def f_back_state (scr : List Int) : Fun := runF (callD fs13 scr) 64 c_back_state
theorem k_back_state : ckSs ⟨n_back_state, nms13, CN⟩ (defScope s_back_state) c_back_state.body (defBody s_back_state) = true := by decide +kernel
theorem sc_back_state : FnScope n_back_state p_back_state (defScope s_back_state) := ⟨rfl, rfl, rfl, by decide +kernel, rfl, by decide +kernel, by decide +kernel⟩
theorem cd_13_1 (scr : List Int) : callD fs13 scr 1 = f_check_items scr := rfl
theorem cd_13_5 (scr : List Int) : callD fs13 scr 5 = f_check_action scr := rfl
theorem cd_13_10 (scr : List Int) : callD fs13 scr 10 = f_first_unlike scr := rfl
abbrev nms14 : List Str := nms13 ++ [("back_state" : Str)]
abbrev fs14 : List (List Int → Fun) := fs13 ++ [f_back_state]
abbrev s_loses_nothing : Stmt := top 20
abbrev n_loses_nothing : List Str := ["items", "action", "some", "state"]
abbrev p_loses_nothing : List Str := ["items", "action"]
def c_loses_nothing : CF := ⟨2, 4,
    (.cons (.asg (.v 2) (.call 8 (.cons (.var 0) .nil)))
    (.cons (.ret (.cmp .eq (.lset (.lc [3] (.v 3) (.seq (.var 2)) (.call 6 (.cons (.var 1) (.cons (.var 3) .nil))))) (.p1 .len (.var 2))))
    .nil))⟩
def f_loses_nothing (scr : List Int) : Fun := runF (callD fs14 scr) 64 c_loses_nothing
theorem k_loses_nothing : ckSs ⟨n_loses_nothing, nms14, CN⟩ (defScope s_loses_nothing) c_loses_nothing.body (defBody s_loses_nothing) = true := by decide +kernel
theorem sc_loses_nothing : FnScope n_loses_nothing p_loses_nothing (defScope s_loses_nothing) := ⟨rfl, rfl, rfl, by decide +kernel, rfl, by decide +kernel, by decide +kernel⟩
theorem cd_14_6 (scr : List Int) : callD fs14 scr 6 = f_applied scr := rfl
theorem cd_14_8 (scr : List Int) : callD fs14 scr 8 = f_states_of scr := rfl
abbrev nms15 : List Str := nms14 ++ [("loses_nothing" : Str)]
abbrev fs15 : List (List Int → Fun) := fs14 ++ [f_loses_nothing]
abbrev s_is_reversible : Stmt := top 21
abbrev n_is_reversible : List Str := ["items", "action"]
abbrev p_is_reversible : List Str := ["items", "action"]
def c_is_reversible : CF := ⟨2, 2,
    (.cons (.exp (.call 1 (.cons (.var 0) .nil)))
    (.cons (.exp (.call 5 (.cons (.var 0) (.cons (.var 1) .nil))))
    (.cons (.ret (.call 14 (.cons (.var 0) (.cons (.var 1) .nil))))
    .nil)))⟩
def f_is_reversible (scr : List Int) : Fun := runF (callD fs15 scr) 64 c_is_reversible
theorem k_is_reversible : ckSs ⟨n_is_reversible, nms15, CN⟩ (defScope s_is_reversible) c_is_reversible.body (defBody s_is_reversible) = true := by decide +kernel
theorem sc_is_reversible : FnScope n_is_reversible p_is_reversible (defScope s_is_reversible) := ⟨rfl, rfl, rfl, by decide +kernel, rfl, by decide +kernel, by decide +kernel⟩
theorem cd_15_1 (scr : List Int) : callD fs15 scr 1 = f_check_items scr := rfl
theorem cd_15_5 (scr : List Int) : callD fs15 scr 5 = f_check_action scr := rfl
theorem cd_15_14 (scr : List Int) : callD fs15 scr 14 = f_loses_nothing scr := rfl
abbrev nms16 : List Str := nms15 ++ [("is_reversible" : Str)]
abbrev fs16 : List (List Int → Fun) := fs15 ++ [f_is_reversible]
abbrev s_operations_of : Stmt := top 22
abbrev n_operations_of : List Str := ["items", "found", "item", "other", "value"]
abbrev p_operations_of : List Str := ["items"]
def c_operations_of : CF := ⟨1, 5,
    (.cons (.own 1 (.lst .nil))
    (.cons (.for (.v 2) (.rng (.var 0))
    (.cons (.ext 1 (.bin .add (.lc [4] (.v 4) (.rng (.cst (PyData.int 3))) (.tup (.cons (.cst (PyData.str ("set" : Str))) (.cons (.var 2) (.cons (.var 4) .nil))))) (.lst (.cons (.tup (.cons (.cst (PyData.str ("add" : Str))) (.cons (.var 2) (.cons (.cst (PyData.int 1)) .nil)))) (.cons (.tup (.cons (.cst (PyData.str ("add" : Str))) (.cons (.var 2) (.cons (.cst (PyData.int 2)) .nil)))) .nil)))))
    (.cons (.ext 1 (.lcIf [3] (.v 3) (.rng (.var 0)) (.cmp .ne (.var 3) (.var 2)) (.tup (.cons (.cst (PyData.str ("copy" : Str))) (.cons (.var 2) (.cons (.var 3) .nil))))))
    .nil)))
    (.cons (.ret (.p1 .sorted (.var 1)))
    .nil)))⟩
def f_operations_of (scr : List Int) : Fun := runF (callD fs16 scr) 64 c_operations_of
theorem k_operations_of : ckSs ⟨n_operations_of, nms16, CN⟩ (defScope s_operations_of) c_operations_of.body (defBody s_operations_of) = true := by decide +kernel
theorem sc_operations_of : FnScope n_operations_of p_operations_of (defScope s_operations_of) := ⟨rfl, rfl, rfl, by decide +kernel, rfl, by decide +kernel, by decide +kernel⟩
abbrev nms17 : List Str := nms16 ++ [("operations_of" : Str)]
abbrev fs17 : List (List Int → Fun) := fs16 ++ [f_operations_of]
abbrev s_way_back : Stmt := top 23
abbrev n_way_back : List Str := ["items", "action", "rows", "turn", "back", "longer", "operation"]
abbrev p_way_back : List Str := ["items", "action"]
def c_way_back : CF := ⟨2, 7,
    (.cons (.exp (.call 1 (.cons (.var 0) .nil)))
    (.cons (.exp (.call 5 (.cons (.var 0) (.cons (.var 1) .nil))))
    (.cons (.iff (.not (.call 14 (.cons (.var 0) (.cons (.var 1) .nil))))
    (.cons (.ret (.cst PyData.none))
    .nil)
    .nil)
    (.cons (.asg (.v 2) (.lst (.cons (.tup .nil) .nil)))
    (.cons (.for (.v 3) (.rng (.cst (PyData.int 3)))
    (.cons (.for (.v 4) (.seq (.var 2))
    (.cons (.iff (.isN (.call 10 (.cons (.var 0) (.cons (.bin .add (.var 1) (.var 4)) (.cons (.tup .nil) .nil)))))
    (.cons (.ret (.var 4))
    .nil)
    .nil)
    .nil))
    (.cons (.own 5 (.lst .nil))
    (.cons (.for (.v 4) (.seq (.var 2))
    (.cons (.ext 5 (.lc [6] (.v 6) (.seq (.call 16 (.cons (.var 0) .nil))) (.bin .add (.var 4) (.tup (.cons (.var 6) .nil)))))
    .nil))
    (.cons (.frz [5])
    (.cons (.asg (.v 2) (.ite (.cmp .lt (.var 3) (.cst (PyData.int 2))) (.var 5) (.lst .nil)))
    .nil))))))
    (.cons (.ret (.cst PyData.none))
    .nil))))))⟩
def f_way_back (scr : List Int) : Fun := runF (callD fs17 scr) 64 c_way_back
theorem k_way_back : ckSs ⟨n_way_back, nms17, CN⟩ (defScope s_way_back) c_way_back.body (defBody s_way_back) = true := by decide +kernel
theorem sc_way_back : FnScope n_way_back p_way_back (defScope s_way_back) := ⟨rfl, rfl, rfl, by decide +kernel, rfl, by decide +kernel, by decide +kernel⟩
theorem cd_17_1 (scr : List Int) : callD fs17 scr 1 = f_check_items scr := rfl
theorem cd_17_5 (scr : List Int) : callD fs17 scr 5 = f_check_action scr := rfl
theorem cd_17_10 (scr : List Int) : callD fs17 scr 10 = f_first_unlike scr := rfl
theorem cd_17_14 (scr : List Int) : callD fs17 scr 14 = f_loses_nothing scr := rfl
theorem cd_17_16 (scr : List Int) : callD fs17 scr 16 = f_operations_of scr := rfl
abbrev nms18 : List Str := nms17 ++ [("way_back" : Str)]
abbrev fs18 : List (List Int → Fun) := fs17 ++ [f_way_back]
abbrev s_law_draw : Stmt := top 25
abbrev f_law_draw : List Int → Fun := drawF
abbrev nms19 : List Str := nms18 ++ [("_law_draw" : Str)]
abbrev fs19 : List (List Int → Fun) := fs18 ++ [f_law_draw]
abbrev s_law_action : Stmt := top 27
abbrev n_law_action : List Str := ["_law_script", "_law_town", "_law_items", "_law_found", "_law_k", "_law_way", "_law_item", "_law_other"]
abbrev p_law_action : List Str := ["_law_script", "_law_town", "_law_items"]
def c_law_action : CF := ⟨3, 8,
    (.cons (.asg (.v 3) (.tup .nil))
    (.cons (.for (.v 4) (.rng (.call 18 (.cons (.var 0) (.cons (.var 1) (.cons (.cst (PyData.int 4)) .nil)))))
    (.cons (.par [5, 6] (.cons (.call 18 (.cons (.var 0) (.cons (.var 1) (.cons (.cst (PyData.int 4)) .nil)))) (.cons (.call 18 (.cons (.var 0) (.cons (.var 1) (.cons (.var 2) .nil)))) .nil)))
    (.cons (.iff (.cmp .lt (.var 5) (.cst (PyData.int 2)))
    (.cons (.asg (.v 3) (.bin .add (.var 3) (.tup (.cons (.tup (.cons (.cst (PyData.str ("add" : Str))) (.cons (.var 6) (.cons (.bin .add (.cst (PyData.int 1)) (.call 18 (.cons (.var 0) (.cons (.var 1) (.cons (.cst (PyData.int 2)) .nil))))) .nil)))) .nil))))
    .nil)
    (.cons (.iff (.or (.cons (.cmp .eq (.var 5) (.cst (PyData.int 2))) (.cons (.cmp .eq (.var 2) (.cst (PyData.int 1))) .nil)))
    (.cons (.asg (.v 3) (.bin .add (.var 3) (.tup (.cons (.tup (.cons (.cst (PyData.str ("set" : Str))) (.cons (.var 6) (.cons (.call 18 (.cons (.var 0) (.cons (.var 1) (.cons (.cst (PyData.int 3)) .nil)))) .nil)))) .nil))))
    .nil)
    (.cons (.asg (.v 7) (.bin .add (.bin .add (.var 6) (.cst (PyData.int 1))) (.call 18 (.cons (.var 0) (.cons (.var 1) (.cons (.bin .sub (.var 2) (.cst (PyData.int 1))) .nil))))))
    (.cons (.asg (.v 3) (.bin .add (.var 3) (.tup (.cons (.tup (.cons (.cst (PyData.str ("copy" : Str))) (.cons (.var 6) (.cons (.bin .mod (.var 7) (.var 2)) .nil)))) .nil))))
    .nil)))
    .nil))
    .nil)))
    (.cons (.ret (.var 3))
    .nil)))⟩
def f_law_action (scr : List Int) : Fun := runF (callD fs19 scr) 64 c_law_action
theorem k_law_action : ckSs ⟨n_law_action, nms19, CN⟩ (defScope s_law_action) c_law_action.body (defBody s_law_action) = true := by decide +kernel
theorem sc_law_action : FnScope n_law_action p_law_action (defScope s_law_action) := ⟨rfl, rfl, rfl, by decide +kernel, rfl, by decide +kernel, by decide +kernel⟩
theorem cd_19_18 (scr : List Int) : callD fs19 scr 18 = f_law_draw scr := rfl
abbrev nms20 : List Str := nms19 ++ [("_law_action" : Str)]
abbrev fs20 : List (List Int → Fun) := fs19 ++ [f_law_action]
abbrev s_law_shown : Stmt := top 28
abbrev n_law_shown : List Str := ["_law_items", "_law_one", "_law_other", "_law_state", "_law_there", "_law_mine", "_law_yours", "_law_twice"]
abbrev p_law_shown : List Str := ["_law_items", "_law_one", "_law_other"]
def c_law_shown : CF := ⟨3, 8,
    (.cons (.asg (.v 3) (.call 12 (.cons (.var 0) (.cons (.var 1) (.cons (.var 2) .nil)))))
    (.cons (.iff (.cmp .ne (.call 12 (.cons (.var 0) (.cons (.var 2) (.cons (.var 1) .nil)))) (.var 3))
    (.cons (.ret (.cst (PyData.bool false)))
    .nil)
    .nil)
    (.cons (.for (.v 4) (.seq (.call 9 (.cons (.var 0) .nil)))
    (.cons (.asg (.v 5) (.call 7 (.cons (.var 0) (.cons (.var 2) (.cons (.call 7 (.cons (.var 0) (.cons (.var 1) (.cons (.var 4) .nil)))) .nil)))))
    (.cons (.asg (.v 6) (.call 7 (.cons (.var 0) (.cons (.var 1) (.cons (.call 7 (.cons (.var 0) (.cons (.var 2) (.cons (.var 4) .nil)))) .nil)))))
    (.cons (.iff (.or (.cons (.and (.cons (.isN (.var 3)) (.cons (.cmp .ne (.var 5) (.var 6)) .nil))) (.cons (.and (.cons (.cmp .eq (.var 4) (.var 3)) (.cons (.cmp .eq (.var 5) (.var 6)) .nil))) .nil)))
    (.cons (.ret (.cst (PyData.bool false)))
    .nil)
    .nil)
    (.cons (.iff (.and (.cons (.notN (.var 3)) (.cons (.cmp .lt (.var 4) (.var 3)) (.cons (.cmp .ne (.var 5) (.var 6)) .nil))))
    (.cons (.ret (.cst (PyData.bool false)))
    .nil)
    .nil)
    .nil)))))
    (.cons (.asg (.v 3) (.call 11 (.cons (.var 0) (.cons (.var 1) .nil))))
    (.cons (.for (.v 4) (.seq (.call 9 (.cons (.var 0) .nil)))
    (.cons (.asg (.v 7) (.call 7 (.cons (.var 0) (.cons (.var 1) (.cons (.call 7 (.cons (.var 0) (.cons (.var 1) (.cons (.var 4) .nil)))) .nil)))))
    (.cons (.iff (.and (.cons (.isN (.var 3)) (.cons (.cmp .ne (.var 7) (.call 7 (.cons (.var 0) (.cons (.var 1) (.cons (.var 4) .nil))))) .nil)))
    (.cons (.ret (.cst (PyData.bool false)))
    .nil)
    .nil)
    (.cons (.iff (.and (.cons (.cmp .eq (.var 4) (.var 3)) (.cons (.cmp .eq (.var 7) (.call 7 (.cons (.var 0) (.cons (.var 1) (.cons (.var 4) .nil))))) .nil)))
    (.cons (.ret (.cst (PyData.bool false)))
    .nil)
    .nil)
    .nil))))
    (.cons (.ret (.cst (PyData.bool true)))
    .nil))))))⟩
def f_law_shown (scr : List Int) : Fun := runF (callD fs20 scr) 64 c_law_shown
theorem k_law_shown : ckSs ⟨n_law_shown, nms20, CN⟩ (defScope s_law_shown) c_law_shown.body (defBody s_law_shown) = true := by decide +kernel
theorem sc_law_shown : FnScope n_law_shown p_law_shown (defScope s_law_shown) := ⟨rfl, rfl, rfl, by decide +kernel, rfl, by decide +kernel, by decide +kernel⟩
theorem cd_20_7 (scr : List Int) : callD fs20 scr 7 = f_after scr := rfl
theorem cd_20_9 (scr : List Int) : callD fs20 scr 9 = f_all_states scr := rfl
theorem cd_20_11 (scr : List Int) : callD fs20 scr 11 = f_repeat_state scr := rfl
theorem cd_20_12 (scr : List Int) : callD fs20 scr 12 = f_exchange_state scr := rfl
abbrev nms21 : List Str := nms20 ++ [("_law_shown" : Str)]
abbrev fs21 : List (List Int → Fun) := fs20 ++ [f_law_shown]
abbrev s_law_plain : Stmt := top 29
abbrev n_law_plain : List Str := ["_law_items", "_law_item", "_law_value", "_law_amount", "_law_apart"]
abbrev p_law_plain : List Str := ["_law_items", "_law_item"]
def c_law_plain : CF := ⟨2, 5,
    (.cons (.for (.v 2) (.seq (.tup (.cons (.cst (PyData.int 0)) (.cons (.cst (PyData.int 1)) (.cons (.cst (PyData.int 2)) .nil)))))
    (.cons (.iff (.notN (.call 11 (.cons (.var 0) (.cons (.tup (.cons (.tup (.cons (.cst (PyData.str ("set" : Str))) (.cons (.var 1) (.cons (.var 2) .nil)))) .nil)) .nil))))
    (.cons (.ret (.cst (PyData.bool false)))
    .nil)
    .nil)
    (.cons (.iff (.call 15 (.cons (.var 0) (.cons (.tup (.cons (.tup (.cons (.cst (PyData.str ("set" : Str))) (.cons (.var 1) (.cons (.var 2) .nil)))) .nil)) .nil)))
    (.cons (.ret (.cst (PyData.bool false)))
    .nil)
    .nil)
    .nil)))
    (.cons (.for (.v 3) (.seq (.tup (.cons (.cst (PyData.int 1)) (.cons (.cst (PyData.int 2)) .nil))))
    (.cons (.iff (.cmp .ne (.call 11 (.cons (.var 0) (.cons (.tup (.cons (.tup (.cons (.cst (PyData.str ("add" : Str))) (.cons (.var 1) (.cons (.var 3) .nil)))) .nil)) .nil))) (.bin .mul (.tup (.cons (.cst (PyData.int 0)) .nil)) (.var 0)))
    (.cons (.ret (.cst (PyData.bool false)))
    .nil)
    .nil)
    (.cons (.iff (.cmp .ne (.call 17 (.cons (.var 0) (.cons (.tup (.cons (.tup (.cons (.cst (PyData.str ("add" : Str))) (.cons (.var 1) (.cons (.var 3) .nil)))) .nil)) .nil))) (.tup (.cons (.tup (.cons (.cst (PyData.str ("add" : Str))) (.cons (.var 1) (.cons (.bin .sub (.cst (PyData.int 3)) (.var 3)) .nil)))) .nil)))
    (.cons (.ret (.cst (PyData.bool false)))
    .nil)
    .nil)
    .nil)))
    (.cons (.iff (.cmp .gt (.var 0) (.cst (PyData.int 1)))
    (.cons (.asg (.v 4) (.bin .mod (.bin .add (.var 1) (.cst (PyData.int 1))) (.var 0)))
    (.cons (.iff (.notN (.call 12 (.cons (.var 0) (.cons (.tup (.cons (.tup (.cons (.cst (PyData.str ("add" : Str))) (.cons (.var 1) (.cons (.cst (PyData.int 1)) .nil)))) .nil)) (.cons (.tup (.cons (.tup (.cons (.cst (PyData.str ("set" : Str))) (.cons (.var 4) (.cons (.cst (PyData.int 2)) .nil)))) .nil)) .nil)))))
    (.cons (.ret (.cst (PyData.bool false)))
    .nil)
    .nil)
    (.cons (.iff (.notN (.call 11 (.cons (.var 0) (.cons (.tup (.cons (.tup (.cons (.cst (PyData.str ("copy" : Str))) (.cons (.var 1) (.cons (.var 4) .nil)))) .nil)) .nil))))
    (.cons (.ret (.cst (PyData.bool false)))
    .nil)
    .nil)
    (.cons (.iff (.call 15 (.cons (.var 0) (.cons (.tup (.cons (.tup (.cons (.cst (PyData.str ("copy" : Str))) (.cons (.var 1) (.cons (.var 4) .nil)))) .nil)) .nil)))
    (.cons (.ret (.cst (PyData.bool false)))
    .nil)
    .nil)
    .nil))))
    .nil)
    (.cons (.ret (.cst (PyData.bool true)))
    .nil))))⟩
def f_law_plain (scr : List Int) : Fun := runF (callD fs21 scr) 64 c_law_plain
theorem k_law_plain : ckSs ⟨n_law_plain, nms21, CN⟩ (defScope s_law_plain) c_law_plain.body (defBody s_law_plain) = true := by decide +kernel
theorem sc_law_plain : FnScope n_law_plain p_law_plain (defScope s_law_plain) := ⟨rfl, rfl, rfl, by decide +kernel, rfl, by decide +kernel, by decide +kernel⟩
theorem cd_21_11 (scr : List Int) : callD fs21 scr 11 = f_repeat_state scr := rfl
theorem cd_21_12 (scr : List Int) : callD fs21 scr 12 = f_exchange_state scr := rfl
theorem cd_21_15 (scr : List Int) : callD fs21 scr 15 = f_is_reversible scr := rfl
theorem cd_21_17 (scr : List Int) : callD fs21 scr 17 = f_way_back scr := rfl
abbrev nms22 : List Str := nms21 ++ [("_law_plain" : Str)]
abbrev fs22 : List (List Int → Fun) := fs21 ++ [f_law_plain]
abbrev s_law : Stmt := top 30
abbrev n_law : List Str := ["_law_script", "_law_town", "_law_k", "_law_items", "_law_one", "_law_other", "_law_back"]
abbrev p_law : List Str := ["_law_script"]
def c_law : CF := ⟨1, 7,
    (.cons (.for (.v 2) (.rng (.cst (PyData.int 5)))
    (.cons (.asg (.v 3) (.bin .add (.cst (PyData.int 1)) (.call 18 (.cons (.var 0) (.cons (.var 1) (.cons (.cst (PyData.int 3)) .nil))))))
    (.cons (.par [4, 5] (.cons (.call 19 (.cons (.var 0) (.cons (.var 1) (.cons (.var 3) .nil)))) (.cons (.call 19 (.cons (.var 0) (.cons (.var 1) (.cons (.var 3) .nil)))) .nil)))
    (.cons (.iff (.not (.call 20 (.cons (.var 3) (.cons (.var 4) (.cons (.var 5) .nil)))))
    (.cons (.ret (.cst (PyData.bool false)))
    .nil)
    .nil)
    (.cons (.asg (.v 6) (.call 17 (.cons (.var 3) (.cons (.var 4) .nil))))
    (.cons (.iff (.notN (.var 6))
    (.cons (.iff (.or (.cons (.not (.call 15 (.cons (.var 3) (.cons (.var 4) .nil)))) (.cons (.notN (.call 13 (.cons (.var 3) (.cons (.var 4) (.cons (.var 6) .nil))))) (.cons (.cmp .gt (.p1 .len (.var 6)) (.cst (PyData.int 2))) .nil))))
    (.cons (.ret (.cst (PyData.bool false)))
    .nil)
    .nil)
    (.cons (.iff (.or (.cons (.notN (.call 13 (.cons (.var 3) (.cons (.var 6) (.cons (.var 4) .nil))))) (.cons (.not (.call 15 (.cons (.var 3) (.cons (.var 6) .nil)))) .nil)))
    (.cons (.ret (.cst (PyData.bool false)))
    .nil)
    .nil)
    .nil))
    .nil)
    (.cons (.iff (.not (.call 21 (.cons (.var 3) (.cons (.call 18 (.cons (.var 0) (.cons (.var 1) (.cons (.var 3) .nil)))) .nil))))
    (.cons (.ret (.cst (PyData.bool false)))
    .nil)
    .nil)
    (.cons (.iff (.cmp .ne (.call 17 (.cons (.var 3) (.cons (.tup .nil) .nil))) (.tup .nil))
    (.cons (.ret (.cst (PyData.bool false)))
    .nil)
    .nil)
    (.cons (.iff (.notN (.call 11 (.cons (.var 3) (.cons (.tup .nil) .nil))))
    (.cons (.ret (.cst (PyData.bool false)))
    .nil)
    .nil)
    (.cons (.iff (.notN (.call 12 (.cons (.var 3) (.cons (.tup .nil) (.cons (.var 4) .nil)))))
    (.cons (.ret (.cst (PyData.bool false)))
    .nil)
    .nil)
    .nil))))))))))
    (.cons (.ret (.cst (PyData.bool true)))
    .nil))⟩
theorem k_law : ckSs ⟨n_law, nms22, CN⟩ (defScope s_law) c_law.body ((defBody s_law).drop 1) = true := by decide +kernel
theorem sc_law : FnScope n_law p_law (defScope s_law) := ⟨rfl, rfl, rfl, by decide +kernel, rfl, by decide +kernel, by decide +kernel⟩
theorem cd_22_11 (scr : List Int) : callD fs22 scr 11 = f_repeat_state scr := rfl
theorem cd_22_12 (scr : List Int) : callD fs22 scr 12 = f_exchange_state scr := rfl
theorem cd_22_13 (scr : List Int) : callD fs22 scr 13 = f_back_state scr := rfl
theorem cd_22_15 (scr : List Int) : callD fs22 scr 15 = f_is_reversible scr := rfl
theorem cd_22_17 (scr : List Int) : callD fs22 scr 17 = f_way_back scr := rfl
theorem cd_22_18 (scr : List Int) : callD fs22 scr 18 = f_law_draw scr := rfl
theorem cd_22_19 (scr : List Int) : callD fs22 scr 19 = f_law_action scr := rfl
theorem cd_22_20 (scr : List Int) : callD fs22 scr 20 = f_law_shown scr := rfl
theorem cd_22_21 (scr : List Int) : callD fs22 scr 21 = f_law_plain scr := rfl
end K03
set_option Elab.async false
set_option linter.all false
set_option maxRecDepth 100000
set_option maxHeartbeats 4000000
namespace K03
open PySem BK L2
abbrev n_law_draw : List Str := ["_law_script", "_law_town", "_law_many", "_law_at", "_law_rest", "_law_number"]
abbrev p_law_draw : List Str := ["_law_script", "_law_town", "_law_many"]
theorem sc_law_draw : FnScope n_law_draw p_law_draw (defScope s_law_draw) := ⟨rfl, rfl, rfl, by decide +kernel, rfl, by decide +kernel, by decide +kernel⟩
section
variable {P : Program} {w : World} {K : PySem.W.Frag} {mg : Str → Option Value} {base : Heap}
theorem nosl {X : Cx} {c : Const} {k : Nat} {p : Pos} : NoSl (.Constant c k p) := fun _ _ => rfl
theorem nosN {x : Str} {p : Pos} : NoSl (.Name x p) := fun _ _ => rfl
theorem ok_draw {f : Addr} {fd : FuncData} {τ0 : Tn} (FU : L2.Fun K "_law_draw" "_law_draw" s_law_draw f fd) (hlen : mg "len" = none) : FnOk P w K mg base CX0 1 f fd p_law_draw (spD P w K τ0 drawF) := by
  refine L2.Fun.ok FU sc_law_draw (fun vs H Q E h => ?_) fun cdv A outer s H vs Q E hr h => ?_
  · obtain ⟨τ, tw, ds, B, _, _, _, _, _, _, _, dv, h⟩ := h
    obtain ⟨many, rfl, _⟩ := drawF_of h
    rw [dv.len]
    rfl
  · obtain ⟨τ, tw, ds, B, ef, ec, et, eK, t, hT, hS, dv, h⟩ := h
    obtain ⟨many, rfl, m0, m1, m2, m3, q⟩ := drawF_of h
    have hvs : vs = [.ref τ.sa, .ref τ.ta, .int many] := by
      cases dv with
      | cons a1 r1 =>
        cases r1 with
        | cons a2 r2 =>
          cases r2 with
          | cons a3 r3 =>
            cases r3
            have b1 : _ = V.ref τ.sa := a1
            have b2 : _ = V.ref τ.ta := a2
            have b3 := a3.i.int
            rw [b1, b2, b3]
    subst hvs
    have hu : (cxOf CX0 P w K mg base n_law_draw "_law_draw" (defScope s_law_draw) f cdv A outer s H E).nox.A.units + 1 < cLine := by
      have := hr.un
      show (A.deeper (PyProof.Rows.envOfC "_law_draw" (defScope s_law_draw) s.heap.objs.size f cdv)).units + 1 < cLine
      omega
    have hl := hlen
    refine ⟨_, pss_cons (ps_dput hu (pv 1) pe_str (pe_op op_add (pe_dget hu (pv 1) pe_str (fun _ _ => rfl)) pe_int) rfl) <|
      pss_cons (ps_set (i := 3) sc_law_draw.nd rfl (.inl rfl) (pe_ifExp (pt_truth (pv 0) (fun _ => rfl)) (pe_op op_mod (pe_dget hu (pv 1) pe_str (fun _ _ => rfl)) (pe_callB call_len_seq rfl hl PySem.boot_len (pa_cons (pv 0) pa_nil))) pe_int)) <|
      pss_cons (ps_set (i := 4) sc_law_draw.nd rfl (.inl rfl) (pe_dget2 hu (pe_dget hu (pv 1) pe_str (fun _ _ => rfl)) (pv 3) (pe_ifExp (pt_truth (pv 0) (fun _ => rfl)) (pe_ix ix_list (pv 0) (pv 3) (fun _ _ => rfl)) pe_int) ⟨rfl, rfl, rfl, rfl⟩)) <|
      pss_cons (ps_if (pt_cmpR op_ge (pv 4) (pe_op op_pow pe_int pe_int) rfl)
        (pss_cons (ps_dput hu (pe_dget hu (pv 1) pe_str (fun _ _ => rfl)) (pv 3) (pe_op op_fdiv (pv 4) (pv 2)) rfl) (pss_one (ps_ret (pe_op op_mod (pv 4) (pv 2)))))
        pss_nil) <|
      pss_cons (ps_set (i := 5) sc_law_draw.nd rfl (.inl rfl) (pe_op op_mod (pe_op op_add (pv 4) (pe_op op_mul pe_int (pe_dget hu (pv 1) pe_str (fun _ _ => rfl)))) pe_int)) <|
      pss_cons (ps_set (i := 5) sc_law_draw.nd rfl (.inl rfl) (pe_op op_mod (pe_op op_pow (pv 5) pe_int) pe_int)) <|
      pss_one (ps_ret (pe_op op_mod (pe_op op_fdiv (pe_op op_mod (pe_op op_add (pe_op op_mul (pe_op op_fdiv (pv 5) pe_int) pe_int) (pv 5)) pe_int) pe_int) (pv 2))), ?_⟩
    have hs := t.2.2.2.2.seq
    rw [eK] at hs
    have hs1 : SqL K (upd H τ.ta (.dK [(.inr "count", .int (tw.cnt + 1)), (.inr "rests", .ref τ.ra)])) τ.sa (τ.scr.map V.int) := by
      have := (t.count).2.2.2.2.seq
      rw [eK] at this
      exact this
    have t1 := t.count
    have x1 : Xt τ H (upd H τ.ta (.dK [(.inr "count", .int (tw.cnt + 1)), (.inr "rests", .ref τ.ra)])) := xt_count t
    refine ⟨.ref τ.ta, rfl, τ.ta, .int tw.cnt, rfl, dg_count t, tw.cnt, 1, rfl, rfl, .ref τ.ta, rfl, τ.ta, _, rfl, dp_count t, ?_⟩
    generalize upd H τ.ta (.dK [(.inr "count", .int (tw.cnt + 1)), (.inr "rests", .ref τ.ra)]) = H1 at t1 x1 hs1 ⊢
    refine at_ok (s := ⟨tw.cnt + 1, tw.rests⟩) rfl rfl t1 hs1 ?_
    refine ⟨.ref τ.ta, rfl, τ.ta, .ref τ.ra, rfl, dg_rests t1, τ.ra, rfl, .inl ⟨_, .inl t1.2.1⟩, _, rfl, ?_⟩
    refine df_ok (c := tw.cnt + 1) rfl rfl hs1 ?_
    refine ⟨_, dg_rest t1 _, ?_⟩
    rw [getD_map]
    have hrest : (lookR (⟨tw.cnt + 1, tw.rests⟩ : Twn).rests (drawAt τ.scr (tw.cnt + 1))).getD (drawDf τ.scr (drawAt τ.scr (tw.cnt + 1))) = drawRest τ.scr tw := rfl
    rw [hrest]
    refine ⟨_, rfl, 10, 18, rfl, rfl, ⟨by decide, by decide, by decide⟩, _, _, rfl, rfl, _, rfl, ?_⟩
    have hD : ∀ {H' : Hp} {i : Int}, Dv P w K τ B true H' (.int i) (int i) := fun {H' i} => Dv.weak (d := .dat _) (Dr.int i)
    by_cases hb : (10 : Int) ^ 18 ≤ drawRest τ.scr tw
    · have hk : decide ((10 : Int) ^ (18 : Int).toNat ≤ drawRest τ.scr tw) = true := decide_eq_true hb
      rw [hk]
      dsimp only
      rw [if_pos rfl]
      have eV : drawV τ.scr tw many = drawRest τ.scr tw % many := by unfold drawV; rw [if_pos hb]
      have eN : drawN τ.scr tw many = ⟨tw.cnt + 1, putR tw.rests (drawAt τ.scr (tw.cnt + 1)) (drawRest τ.scr tw / many)⟩ := by unfold drawN; rw [if_pos hb]
      refine ⟨_, rfl, _, rfl, drawRest τ.scr tw, many, rfl, rfl, ⟨m0, by omega⟩, .ref τ.ta, rfl, τ.ta, .ref τ.ra, rfl, dg_rests t1, _, rfl, τ.ra, _, rfl, dp_rest t1 m2 _ _, ?_⟩
      refine ⟨_, rfl, _, rfl, drawRest τ.scr tw, many, rfl, rfl, m0, ?_⟩
      have t2 := t1.rest (rs := putR tw.rests (drawAt τ.scr (tw.cnt + 1)) (drawRest τ.scr tw / many))
      rw [eV, eN] at q
      exact q _ (x1.trans (xt_rest t1)) t2 _ hD
    · have hk : decide ((10 : Int) ^ (18 : Int).toNat ≤ drawRest τ.scr tw) = false := decide_eq_false hb
      rw [hk]
      dsimp only
      rw [if_neg Bool.false_ne_true]
      have eV : drawV τ.scr tw many = drawNum (drawRest τ.scr tw) (tw.cnt + 1) many := by unfold drawV; rw [if_neg hb]
      have eN : drawN τ.scr tw many = ⟨tw.cnt + 1, tw.rests⟩ := by unfold drawN; rw [if_neg hb]
      rw [eV, eN] at q
      refine ⟨_, rfl, .ref τ.ta, rfl, τ.ta, .int (tw.cnt + 1), rfl, dg_count t1, 104729, tw.cnt + 1, rfl, rfl, .inl ⟨by decide, by decide⟩, drawRest τ.scr tw, _, rfl, rfl, _, _, rfl, rfl, (by decide : (0 : Int) < 4294967291), ?_⟩
      have b1 : 0 ≤ (drawRest τ.scr tw + 104729 * (tw.cnt + 1)) % 4294967291 := Int.emod_nonneg _ (by decide)
      have b2 : (drawRest τ.scr tw + 104729 * (tw.cnt + 1)) % 4294967291 < 4294967291 := Int.emod_lt_of_pos _ (by decide)
      refine ⟨_, rfl, _, 5, rfl, rfl, ⟨by decide, by decide, by omega⟩, _, _, rfl, rfl, (by decide : (0 : Int) < 4294967279), ?_⟩
      refine ⟨_, rfl, _, 64, rfl, rfl, ⟨by decide, by decide⟩, _, 69621, rfl, rfl, .inr ⟨by decide, by decide⟩, _, rfl, _, _, rfl, rfl, _, _, rfl, rfl, (by decide : (0 : Int) < 4294967231), _, 8, rfl, rfl, ⟨by decide, by decide⟩, _, rfl, _, many, rfl, rfl, m0, ?_⟩
      exact q _ x1 t1 _ hD
end
end K03
set_option Elab.async false
set_option linter.all false
set_option maxRecDepth 100000
set_option maxHeartbeats 4000000
namespace K03
open PySem BK
/-! ### data -/
inductive Op where
  | set (i v : Nat)
  | add (i v : Nat)
  | cop (i j : Nat)
  deriving DecidableEq
def Op.d : Op → PyData
  | .set i v => .tuple [.str "set", .int (i : Int), .int (v : Int)]
  | .add i v => .tuple [.str "add", .int (i : Int), .int (v : Int)]
  | .cop i j => .tuple [.str "copy", .int (i : Int), .int (j : Int)]
def Op.ok (n : Nat) : Op → Bool
  | .set i v => decide (i < n) && decide (v < 3)
  | .add i v => decide (i < n) && decide (1 ≤ v) && decide (v < 3)
  | .cop i j => decide (i < n) && decide (j < n) && decide (i ≠ j)
abbrev St := List Int
def sd (xs : St) : PyData := .tuple (xs.map .int)
def ad (a : List Op) : PyData := .tuple (a.map Op.d)
def appl1 : Op → St → St
  | .set i v, xs => xs.set i v
  | .add i v, xs => xs.set i ((xs.getD i 0 + v) % 3)
  | .cop i j, xs => xs.set j (xs.getD i 0)
def appl (a : List Op) (xs : St) : St := a.foldl (fun x o => appl1 o x) xs
theorem appl_app (a b : List Op) (xs : St) : appl (a ++ b) xs = appl b (appl a xs) := by
  unfold appl
  rw [List.foldl_append]
theorem appl1_len (o : Op) (xs : St) : (appl1 o xs).length = xs.length := by
  cases o <;> simp [appl1]
def statesL : Nat → List St
  | 0 => [[]]
  | n + 1 => (statesL n).flatMap fun r => [r ++ [0], r ++ [1], r ++ [2]]
def okN (n : Nat) : Prop := n = 1 ∨ n = 2 ∨ n = 3
variable (scr : List Int) (s : Twn)
theorem r_between (i lo hi : Int) : f_is_between scr [int i, int lo, int hi] s = .ok (bl (decide (lo ≤ i) && decide (i ≤ hi))) s := by
  refine r_fn rfl (xs_rt (x_ret ?_))
  refine e_and (an_t (e_isi (e_var rfl) rfl) (an_t (e_not (e_isi (e_var rfl) rfl) rfl) ?_))
  rw [← Bool.and_true (decide (lo ≤ i) && decide (i ≤ hi))]
  exact an_c (e_chn (e_var rfl) (e_var rfl) (e_var rfl)) an_nil
theorem r_states {n : Nat} (h : okN n) : f_states_of scr [int n] s = .ok (lst ((statesL n).map sd)) s := by
  rcases h with rfl | rfl | rfl
  · with_unfolding_all rfl
  · with_unfolding_all rfl
  · with_unfolding_all rfl
theorem r_check_items {n : Nat} (h : okN n) : f_check_items scr [int n] s = .ok non s := by
  rcases h with rfl | rfl | rfl
  · with_unfolding_all rfl
  · with_unfolding_all rfl
  · with_unfolding_all rfl
/-! ### one operation -/
theorem ixN_at {n i : Nat} (h : i < n) : L2.ixN n (i : Int) = some i := by
  unfold L2.ixN
  rw [if_pos (by omega), if_pos (by omega)]
  simp
abbrev sEnv (A S : PyData) (xs : St) (x3 x4 x5 : Option (Bool × D)) : BK.Env := [some (false, .dat A), some (false, .dat S), some (true, lst (xs.map .int)), x3, x4, x5]
abbrev aBody : CSs := .cons (.iff (.cmp .eq (.var 3) (.cst (PyData.str ("set" : PySem.Str))))
    (.cons (.sto 2 (.var 4) (.var 5)) .nil)
    (.cons (.iff (.cmp .eq (.var 3) (.cst (PyData.str ("add" : PySem.Str))))
    (.cons (.sto 2 (.var 4) (.bin .mod (.bin .add (.idx (.var 2) (.var 4)) (.var 5)) (.cst (PyData.int 3)))) .nil)
    (.cons (.sto 2 (.var 5) (.idx (.var 2) (.var 4))) .nil)) .nil)) .nil
theorem eq_strs : opEq (str ("set" : PySem.Str)) (str ("set" : PySem.Str)) = some true ∧ opEq (str ("add" : PySem.Str)) (str ("set" : PySem.Str)) = some false ∧ opEq (str ("add" : PySem.Str)) (str ("add" : PySem.Str)) = some true ∧
    opEq (str ("copy" : PySem.Str)) (str ("set" : PySem.Str)) = some false ∧ opEq (str ("copy" : PySem.Str)) (str ("add" : PySem.Str)) = some false := by decide +kernel
theorem at_map {xs : St} {i : Nat} (h : i < xs.length)   : L2.atI (xs.map PyData.int) (i : Int) = some (.int (xs.getD i 0)) := by
  unfold L2.atI
  rw [List.length_map, ixN_at h]
  simp [h]
theorem set_map {xs : St} {i : Nat} {v : Int} : (xs.map PyData.int).set i (.int v) = (xs.set i v).map .int := by
  rw [List.map_set]
theorem turn1 {n : Nat} {o : Op} {A S : PyData} {xs : St} {x3 x4 x5 : Option (Bool × D)} {G : Nat → Fun} {fu : Nat} (ho : o.ok n = true) (hn : xs.length = n) :
    ∃ y3 y4 y5, (do
      let env' ← M.of (bindTg (.t [(.v 3), (.v 4), (.v 5)]) o.d (sEnv A S xs x3 x4 x5))
      exs G fu aBody env') s = .ok (.nx (sEnv A S (appl1 o xs) y3 y4 y5)) s := by
  obtain ⟨e1, e2, e3, e4, e5⟩ := eq_strs
  cases o with
  | set i v =>
    simp only [Op.ok, Bool.and_eq_true, decide_eq_true_eq] at ho
    refine ⟨some (false, str "set"), some (false, int i), some (false, int v), ?_⟩
    refine b_ok (of_ok rfl) (xs_nx (x_iffT (e_cmp (e_varO rfl) e_cst e1) (xs_nx (x_sto (m' := lst ((xs.set i v).map .int)) (e_var rfl) rfl (e_var rfl) ?_) xs_nil)) xs_nil)
    unfold stoD
    dsimp only
    rw [List.length_map, ixN_at (hn ▸ ho.1), ← set_map]
    rfl
  | add i v =>
    simp only [Op.ok, Bool.and_eq_true, decide_eq_true_eq] at ho
    refine ⟨some (false, str "add"), some (false, int i), some (false, int v), ?_⟩
    refine b_ok (of_ok rfl) (xs_nx (x_iffF (e_cmp (e_varO rfl) e_cst e2) (xs_nx (x_iffT (e_cmp (e_varO rfl) e_cst e3) (xs_nx (x_sto (d := .int ((xs.getD i 0 + v) % 3)) (m' := lst ((xs.set i ((xs.getD i 0 + v) % 3)).map .int))
      (e_bin (e_bin (e_idx (r := int (xs.getD i 0)) (e_varO rfl) (e_varO rfl) ?_) (e_varO rfl) rfl) e_cst rfl) rfl (e_var rfl) ?_) xs_nil)) xs_nil)) xs_nil)
    · unfold opIdx
      dsimp only
      rw [at_map (hn ▸ ho.1.1)]
      rfl
    · unfold stoD
      dsimp only
      rw [List.length_map, ixN_at (hn ▸ ho.1.1), ← set_map]
      rfl
  | cop i j =>
    simp only [Op.ok, Bool.and_eq_true, decide_eq_true_eq] at ho
    refine ⟨some (false, str "copy"), some (false, int i), some (false, int j), ?_⟩
    refine b_ok (of_ok rfl) (xs_nx (x_iffF (e_cmp (e_varO rfl) e_cst e4) (xs_nx (x_iffF (e_cmp (e_varO rfl) e_cst e5) (xs_nx (x_sto (d := .int (xs.getD i 0)) (m' := lst ((xs.set j (xs.getD i 0)).map .int))
      (e_idx (e_varO rfl) (e_varO rfl) ?_) rfl (e_var rfl) ?_) xs_nil)) xs_nil)) xs_nil)
    · unfold opIdx
      dsimp only
      rw [at_map (hn ▸ ho.1.1)]
      rfl
    · unfold stoD
      dsimp only
      rw [List.length_map, ixN_at (hn ▸ ho.1.2), ← set_map]
      rfl
theorem r_applied {n : Nat} {a : List Op} {xs : St} (ha : ∀ o ∈ a, o.ok n = true) (hn : xs.length = n) : f_applied scr [.dat (ad a), .dat (sd xs)] s = .ok (.dat (sd (appl a xs))) s := by
  obtain ⟨env', s', h1, ⟨y3, y4, y5, rfl⟩, rfl⟩ := for_inv (s := s) (turn := fun x env => do
      let env' ← M.of (bindTg (.t [(.v 3), (.v 4), (.v 5)]) x env)
      exs (callD fs6 scr) 64 aBody env') (xs := a.map Op.d) (env := sEnv (ad a) (sd xs) xs none none none) (fun i env s' => (∃ y3 y4 y5, env = sEnv (ad a) (sd xs) (appl (a.take i) xs) y3 y4 y5) ∧ s' = s) ⟨⟨none, none, none, rfl⟩, rfl⟩ (by
      rintro i x env s' hx ⟨⟨y3, y4, y5, rfl⟩, rfl⟩
      rw [List.getElem?_map] at hx
      cases ho : a[i]? with
      | none => rw [ho] at hx; cases hx
      | some o =>
        rw [ho] at hx
        cases hx
        have hm : o ∈ a := List.mem_of_getElem? ho
        have hlen : ∀ (b : List Op) (xs : St), (appl b xs).length = xs.length := by
          intro b
          induction b with
          | nil => intro xs; rfl
          | cons q b ih => intro xs; exact (ih (appl1 q xs)).trans (appl1_len q xs)
        obtain ⟨z3, z4, z5, h⟩ := turn1 (s := s') (G := callD fs6 scr) (fu := 64) (A := ad a) (S := sd xs) (x3 := y3) (x4 := y4) (x5 := y5) (ha o hm) ((hlen (a.take i) xs).trans hn)
        refine ⟨_, s', h, ⟨z3, z4, z5, ?_⟩, rfl⟩
        have : appl (a.take (i + 1)) xs = appl1 o (appl (a.take i) xs) := by
          rw [List.take_add_one, ho, appl_app]
          rfl
        rw [this])
  refine r_fn rfl (xs_nx (x_own (e_p1 (e_varO rfl) rfl)) (xs_nx (x_for (i_seq (e_var rfl) rfl) h1) (xs_rt (x_ret (e_p1 (e_varO rfl) ?_)))))
  rw [List.length_map, List.take_length]
  rfl
/-! ### what is well formed -/
def okSt (n : Nat) (xs : St) : Prop := xs.length = n ∧ ∀ x ∈ xs, 0 ≤ x ∧ x ≤ 2
def okA (n : Nat) (a : List Op) : Prop := a.length ≤ 3 ∧ ∀ o ∈ a, o.ok n = true
theorem appl_len (b : List Op) : ∀ xs : St, (appl b xs).length = xs.length := by
  induction b with
  | nil => intro xs; rfl
  | cons q b ih => intro xs; exact (ih (appl1 q xs)).trans (appl1_len q xs)
theorem getD_ok {n : Nat} {xs : St} (h : okSt n xs) (i : Nat) : 0 ≤ xs.getD i 0 ∧ xs.getD i 0 ≤ 2 := by
  rw [List.getD_eq_getElem?_getD]
  cases e : xs[i]? with
  | none => simp
  | some x => exact h.2 x (List.mem_of_getElem? e)
theorem set_ok {n : Nat} {xs : St} (h : okSt n xs) {i : Nat} {v : Int} (hv : 0 ≤ v ∧ v ≤ 2) : okSt n (xs.set i v) := by
  refine ⟨by rw [List.length_set]; exact h.1, fun x hx => ?_⟩
  rcases List.mem_or_eq_of_mem_set hx with hx | hx
  · exact h.2 x hx
  · rw [hx]; exact hv
theorem appl1_ok {n : Nat} {o : Op} {xs : St} (ho : o.ok n = true) (h : okSt n xs) : okSt n (appl1 o xs) := by
  cases o with
  | set i v =>
    simp only [Op.ok, Bool.and_eq_true, decide_eq_true_eq] at ho
    exact set_ok h ⟨by omega, by omega⟩
  | add i v => exact set_ok h ⟨by omega, by omega⟩
  | cop i j => exact set_ok h (getD_ok h i)
theorem appl_ok {n : Nat} : ∀ {a : List Op} {xs : St}, (∀ o ∈ a, o.ok n = true) → okSt n xs → okSt n (appl a xs)
  | [], _, _, h => h
  | o :: a, xs, ha, h => appl_ok (a := a) (fun q hq => ha q (List.mem_cons_of_mem _ hq)) (appl1_ok (ha o List.mem_cons_self) h)
theorem mem_states {n : Nat} {xs : St} : xs ∈ statesL n ↔ okSt n xs := by
  induction n generalizing xs with
  | zero =>
    unfold statesL okSt
    rw [List.mem_singleton, List.length_eq_zero_iff]
    exact ⟨fun h => ⟨h, by rw [h]; intro x hx; cases hx⟩, fun h => h.1⟩
  | succ n ih =>
    unfold statesL
    rw [List.mem_flatMap]
    constructor
    · rintro ⟨r, hr, hx⟩
      have hr := ih.mp hr
      have key : ∀ v : Int, 0 ≤ v ∧ v ≤ 2 → okSt (n + 1) (r ++ [v]) := fun v hv => ⟨by simp [hr.1], fun x hx => by
        rcases List.mem_append.mp hx with hx | hx
        · exact hr.2 x hx
        · rw [List.mem_singleton.mp hx]; exact hv⟩
      simp only [List.mem_cons, List.not_mem_nil, or_false] at hx
      rcases hx with rfl | rfl | rfl
      · exact key 0 (by omega)
      · exact key 1 (by omega)
      · exact key 2 (by omega)
    · intro h
      have hne : xs ≠ [] := fun e => by rw [e] at h; exact absurd h.1 (by simp)
      refine ⟨xs.dropLast, ih.mpr ⟨by rw [List.length_dropLast, h.1]; rfl, fun x hx => h.2 x (List.dropLast_subset _ hx)⟩, ?_⟩
      have hl := h.2 _ (List.getLast_mem hne)
      have e := List.dropLast_concat_getLast hne
      have : xs.getLast hne = 0 ∨ xs.getLast hne = 1 ∨ xs.getLast hne = 2 := by omega
      simp only [List.mem_cons, List.not_mem_nil, or_false]
      rcases this with z | z | z <;> rw [z] at e
      · exact .inl e.symm
      · exact .inr (.inl e.symm)
      · exact .inr (.inr e.symm)
theorem eqvAll_ints : ∀ xs ys : List Int, PyData.eqvAll (xs.map .int) (ys.map .int) = decide (xs = ys)
  | [], [] => rfl
  | [], _ :: _ => rfl
  | _ :: _, [] => rfl
  | x :: xs, y :: ys => by
    rw [List.map_cons, List.map_cons]
    unfold PyData.eqvAll
    rw [eqvAll_ints xs ys]
    show ((x == y) && decide (xs = ys)) = _
    rw [Bool.eq_iff_iff]
    simp
theorem depth_ints : ∀ xs : List Int, PyData.depthAll (xs.map .int) = 0
  | [] => rfl
  | x :: xs => by
    rw [List.map_cons]
    unfold PyData.depthAll
    rw [depth_ints xs]
    rfl
theorem okD_sd (xs : St) : okD (sd xs) = true := by
  unfold okD sd
  have : (PyData.tuple (xs.map .int)).depth = 1 := by
    unfold PyData.depth
    rw [depth_ints]
  rw [this]
  rfl
theorem eq_sd (xs ys : St) : opEq (.dat (sd xs)) (.dat (sd ys)) = some (decide (xs = ys)) := by
  unfold opEq
  dsimp only
  rw [okD_sd, okD_sd]
  exact congrArg some (eqvAll_ints xs ys)
/-! ### the checks -/
theorem bools_true : ∀ (n : Nat), bools (List.replicate n (.bool true)) = some (List.replicate n true)
  | 0 => rfl
  | n + 1 => by
    rw [List.replicate_succ, List.replicate_succ]
    unfold bools
    rw [bools_true n]
    rfl
theorem all_true {α : Type} (xs : List α) : opP1 .all (lst (xs.map fun _ => .bool true)) = some (bl true) := by
  unfold opP1 opAll
  dsimp only
  rw [List.map_const', bools_true]
  show some (bl ((List.replicate xs.length true).all id)) = _
  rw [List.all_eq_true.mpr fun x hx => (by rw [List.eq_of_mem_replicate hx]; rfl)]
theorem fits_small {α : Type} {xs : List α} (h : xs.length ≤ 1000) : fits xs = true := by
  unfold fits
  rw [sizeLine_eq]
  exact decide_eq_true (by omega)
theorem dec_true {p : Prop} [Decidable p] (h : p) : some (bl (decide p)) = some (bl true) := by rw [decide_eq_true h]
theorem r_state_of {n : Nat} {xs : St} (hn : okN n) (h : okSt n xs) : f_is_state_of scr [int n, .dat (sd xs)] s = .ok (bl true) s := by
  have h3 : n ≤ 3 := by rcases hn with rfl | rfl | rfl <;> decide
  have hlc : ev (callD fs2 scr) false (.lc [2] (.v 2) (.seq (.var 1)) (.call 0 (.cons (.var 2) (.cons (.cst (PyData.int 0)) (.cons (.cst (PyData.int 2)) .nil))))) [some (false, int n), some (false, .dat (sd xs)), none] s = .ok (lst (xs.map fun _ => .bool true)) s := by
    refine e_lc (i_seq (e_var rfl) rfl) rfl (go_mapG (g := .int) (f := fun _ => .bool true) fun x hx => lc_turn rfl (e_call (es_cons (e_var rfl) (es_cons e_cst (es_cons e_cst es_nil))) ?_)) (fits_small (by rw [List.length_map, h.1]; omega))
    have hx := h.2 x hx
    rw [cd_2_0, r_between, decide_eq_true hx.1, decide_eq_true hx.2]
    rfl
  refine r_fn rfl (xs_rt (x_ret (e_and (an_t (e_isi (e_var rfl) rfl) (an_t (e_cmp (r := true) (e_p1 (e_var rfl) rfl) (e_var rfl) ?_) (an_t (e_p1 hlc (all_true xs)) an_nil))))))
  show opEq (int (xs.map PyData.int).length) (int n) = some true
  rw [List.length_map, h.1]
  show (if okD (.int n) && okD (.int n) then some ((n : Int) == n) else none) = _
  rw [beq_self_eq_true]
  rfl
/-! ### operations, actions -/
def ops0 (n : Nat) : List Op := (List.range n).flatMap fun i => [.set i 0, .set i 1, .set i 2, .add i 1, .add i 2] ++ ((List.range n).filter (· ≠ i)).map (.cop i)
theorem mem_ops0 {n : Nat} {o : Op} : o ∈ ops0 n ↔ o.ok n = true := by
  unfold ops0
  rw [List.mem_flatMap]
  constructor
  · rintro ⟨i, hi, h⟩
    have hi := List.mem_range.mp hi
    rw [List.mem_append] at h
    rcases h with h | h
    · simp only [List.mem_cons, List.not_mem_nil, or_false] at h
      rcases h with rfl | rfl | rfl | rfl | rfl <;> simp [Op.ok, hi]
    · obtain ⟨j, hj, rfl⟩ := List.mem_map.mp h
      rw [List.mem_filter] at hj
      have h1 := List.mem_range.mp hj.1
      have h2 : j ≠ i := by simpa using hj.2
      simp [Op.ok, hi, h1, Ne.symm h2]
  · intro h
    cases o with
    | set i v =>
      simp only [Op.ok, Bool.and_eq_true, decide_eq_true_eq] at h
      refine ⟨i, List.mem_range.mpr h.1, ?_⟩
      have : v = 0 ∨ v = 1 ∨ v = 2 := by omega
      rcases this with rfl | rfl | rfl <;> simp
    | add i v =>
      simp only [Op.ok, Bool.and_eq_true, decide_eq_true_eq] at h
      refine ⟨i, List.mem_range.mpr h.1.1, ?_⟩
      have : v = 1 ∨ v = 2 := by omega
      rcases this with rfl | rfl <;> simp
    | cop i j =>
      simp only [Op.ok, Bool.and_eq_true, decide_eq_true_eq] at h
      refine ⟨i, List.mem_range.mpr h.1.1, ?_⟩
      rw [List.mem_append]
      refine .inr (List.mem_map.mpr ⟨j, List.mem_filter.mpr ⟨List.mem_range.mpr h.1.2, ?_⟩, rfl⟩)
      simpa using Ne.symm h.2
theorem ops_1 : ops0 1 = [.set 0 0, .set 0 1, .set 0 2, .add 0 1, .add 0 2] := by decide +kernel
theorem r_op_1 : ∀ o ∈ ops0 1, f_is_operation scr [int 1, .dat o.d] s = .ok (bl true) s := by
  rw [ops_1]
  repeat (refine List.forall_mem_cons.mpr ⟨by with_unfolding_all rfl, ?_⟩)
  intro o h
  cases h
theorem ops_2 : ops0 2 = [.set 0 0, .set 0 1, .set 0 2, .add 0 1, .add 0 2, .cop 0 1, .set 1 0, .set 1 1, .set 1 2, .add 1 1, .add 1 2, .cop 1 0] := by decide +kernel
theorem r_op_2 : ∀ o ∈ ops0 2, f_is_operation scr [int 2, .dat o.d] s = .ok (bl true) s := by
  rw [ops_2]
  repeat (refine List.forall_mem_cons.mpr ⟨by with_unfolding_all rfl, ?_⟩)
  intro o h
  cases h
theorem ops_3 : ops0 3 = [.set 0 0, .set 0 1, .set 0 2, .add 0 1, .add 0 2, .cop 0 1, .cop 0 2, .set 1 0, .set 1 1, .set 1 2, .add 1 1, .add 1 2, .cop 1 0, .cop 1 2, .set 2 0, .set 2 1, .set 2 2, .add 2 1, .add 2 2, .cop 2 0, .cop 2 1] := by decide +kernel
theorem r_op_3 : ∀ o ∈ ops0 3, f_is_operation scr [int 3, .dat o.d] s = .ok (bl true) s := by
  rw [ops_3]
  repeat (refine List.forall_mem_cons.mpr ⟨by with_unfolding_all rfl, ?_⟩)
  intro o h
  cases h
theorem r_operation {n : Nat} {o : Op} (hn : okN n) (ho : o.ok n = true) : f_is_operation scr [int n, .dat o.d] s = .ok (bl true) s := by
  have ho := mem_ops0.mpr ho
  rcases hn with rfl | rfl | rfl
  · exact r_op_1 scr s o ho
  · exact r_op_2 scr s o ho
  · exact r_op_3 scr s o ho
theorem okA.n {n : Nat} {a : List Op} (h : okA n a) : a.length ≤ 3 := h.1
theorem le_int (m : Nat) (h : m ≤ 3) : opCmp .le (int m) (int 3) = some true := by
  show some (decide ((m : Int) ≤ 3)) = _
  rw [decide_eq_true (by omega)]
theorem r_action_of {n : Nat} {a : List Op} (hn : okN n) (h : okA n a) : f_is_action_of scr [int n, .dat (ad a)] s = .ok (bl true) s := by
  have hlc : ev (callD fs4 scr) false (.lc [2] (.v 2) (.seq (.var 1)) (.call 3 (.cons (.var 0) (.cons (.var 2) .nil)))) [some (false, int n), some (false, .dat (ad a)), none] s = .ok (lst (a.map fun _ => .bool true)) s := by
    refine e_lc (i_seq (e_var rfl) rfl) rfl (go_mapG (g := Op.d) (f := fun _ => .bool true) fun x hx => lc_turn rfl (e_call (es_cons (e_var rfl) (es_cons (e_var rfl) es_nil)) ?_)) (fits_small (by rw [List.length_map]; have := h.1; omega))
    rw [cd_4_3]
    exact r_operation scr s hn (h.2 x hx)
  refine r_fn rfl (xs_rt (x_ret (e_and (an_t (e_isi (e_var rfl) rfl) (an_t (e_cmp (r := true) (e_p1 (x := .dat (ad a)) (r := int a.length) (e_var rfl) ?_) e_cst ?_) (an_t (e_p1 hlc (all_true a)) an_nil))))))
  · show some (int (a.map Op.d).length) = _
    rw [List.length_map]
  · exact le_int _ h.1
theorem r_check_action {n : Nat} {a : List Op} (hn : okN n) (h : okA n a) : f_check_action scr [int n, .dat (ad a)] s = .ok non s := by
  refine r_fnN rfl (xs_nx (x_iffF (e_not (e_call (es_cons (e_var rfl) (es_cons (e_var rfl) es_nil)) (r_action_of scr s hn h)) rfl) xs_nil) xs_nil)
theorem r_after {n : Nat} {a : List Op} {xs : St} (hn : okN n) (h : okA n a) (hs : okSt n xs) : f_after scr [int n, .dat (ad a), .dat (sd xs)] s = .ok (.dat (sd (appl a xs))) s := by
  refine r_fn rfl (xs_nx (x_exp (e_call (es_cons (e_var rfl) es_nil) (r_check_items scr s hn))) (xs_nx (x_exp (e_call (es_cons (e_var rfl) (es_cons (e_var rfl) es_nil)) (r_check_action scr s hn h)))
    (xs_nx (x_iffF (e_not (e_call (es_cons (e_var rfl) (es_cons (e_var rfl) es_nil)) (r_state_of scr s hn hs)) rfl) xs_nil) (xs_rt (x_ret (e_call (es_cons (e_var rfl) (es_cons (e_var rfl) es_nil)) (r_applied scr s h.2 hs.1)))))))
theorem r_all_states {n : Nat} (hn : okN n) : f_all_states scr [int n] s = .ok (tup ((statesL n).map sd)) s := by
  refine r_fn rfl (xs_nx (x_exp (e_call (es_cons (e_var rfl) es_nil) (r_check_items scr s hn))) (xs_rt (x_ret (e_p1 (e_call (es_cons (e_var rfl) es_nil) (r_states scr s hn)) rfl))))
/-! ### the first state that tells two actions apart -/
def unl (a b : List Op) (xs : St) : Bool := decide (appl a xs ≠ appl b xs)
def firstD (n : Nat) (a b : List Op) : PyData := match (statesL n).find? (unl a b) with
  | some xs => sd xs
  | none => .none
theorem r_first {n : Nat} {a b : List Op} (hn : okN n) (ha : ∀ o ∈ a, o.ok n = true) (hb : ∀ o ∈ b, o.ok n = true) : f_first_unlike scr [int n, .dat (ad a), .dat (ad b)] s = .ok (.dat (firstD n a b)) s := by
  obtain ⟨f1, f2⟩ := for_find (s := s) (g := sd) (turn := fun x env => do
      let env' ← M.of (bindTg (.v 3) x env)
      exs (callD fs10 scr) 64 (.cons (.iff (.cmp .ne (.call 6 (.cons (.var 1) (.cons (.var 3) .nil))) (.call 6 (.cons (.var 2) (.cons (.var 3) .nil)))) (.cons (.ret (.var 3)) .nil) .nil) .nil) env') (p := unl a b) (res := fun x => .dat (sd x)) (xs := statesL n)
    (env := [some (false, int n), some (false, .dat (ad a)), some (false, .dat (ad b)), none]) (fun env => ∃ y, env = [some (false, int n), some (false, .dat (ad a)), some (false, .dat (ad b)), y]) ⟨none, rfl⟩ (by
      rintro x hx env ⟨y, rfl⟩
      have hl := (mem_states.mp hx).1
      have hc : ev (callD fs10 scr) true (.cmp .ne (.call 6 (.cons (.var 1) (.cons (.var 3) .nil))) (.call 6 (.cons (.var 2) (.cons (.var 3) .nil)))) [some (false, int n), some (false, .dat (ad a)), some (false, .dat (ad b)), some (false, .dat (sd x))] s = .ok (bl (unl a b x)) s := by
        refine e_cmp (e_call (es_cons (e_var rfl) (es_cons (e_var rfl) es_nil)) (r_applied scr s ha hl)) (e_call (es_cons (e_var rfl) (es_cons (e_var rfl) es_nil)) (r_applied scr s hb hl)) ?_
        show (opEq (.dat (sd (appl a x))) (.dat (sd (appl b x)))).map (!·) = _
        rw [eq_sd]
        unfold unl
        simp
      refine ⟨fun hp => ?_, fun hp => ⟨_, ?_, some (false, .dat (sd x)), rfl⟩⟩
      · rw [hp] at hc
        exact b_ok (of_ok rfl) (xs_rt (x_iffT hc (xs_rt (x_ret (e_var rfl)))))
      · rw [hp] at hc
        exact b_ok (of_ok rfl) (xs_nx (x_iffF hc xs_nil) xs_nil))
  unfold firstD
  cases hf : (statesL n).find? (unl a b) with
  | some xs => exact r_fn rfl (xs_rt (x_for (i_seq (e_call (es_cons (e_var rfl) es_nil) (r_states scr s hn)) rfl) (f1 xs hf)))
  | none =>
    obtain ⟨env', h1, y, rfl⟩ := f2 hf
    exact r_fn rfl (xs_nx (x_for (i_seq (e_call (es_cons (e_var rfl) es_nil) (r_states scr s hn)) rfl) h1) (xs_rt (x_ret e_cst)))
theorem ad_app (a b : List Op) (h : a.length + b.length ≤ 1000) : opBin .add (.dat (ad a)) (.dat (ad b)) = some (.dat (ad (a ++ b))) := by
  show (if (a.map Op.d).length + (b.map Op.d).length ≤ sizeLine then some (tup (a.map Op.d ++ b.map Op.d)) else none) = _
  rw [List.length_map, List.length_map, sizeLine_eq, if_pos (by omega)]
  unfold ad
  rw [List.map_append]
theorem app_ok {n : Nat} {a b : List Op} (ha : ∀ o ∈ a, o.ok n = true) (hb : ∀ o ∈ b, o.ok n = true) : ∀ o ∈ a ++ b, o.ok n = true := fun o h => (List.mem_append.mp h).elim (ha o) (hb o)
theorem r_repeat {n : Nat} {a : List Op} (hn : okN n) (h : okA n a) : f_repeat_state scr [int n, .dat (ad a)] s = .ok (.dat (firstD n a (a ++ a))) s := by
  have := h.1
  refine r_fn rfl (xs_nx (x_exp (e_call (es_cons (e_var rfl) es_nil) (r_check_items scr s hn))) (xs_nx (x_exp (e_call (es_cons (e_var rfl) (es_cons (e_var rfl) es_nil)) (r_check_action scr s hn h)))
    (xs_rt (x_ret (e_call (es_cons (e_var rfl) (es_cons (e_var rfl) (es_cons (e_bin (e_var rfl) (e_var rfl) (ad_app a a (by omega))) es_nil))) (r_first scr s hn h.2 (app_ok h.2 h.2)))))))
theorem r_exchange {n : Nat} {a b : List Op} (hn : okN n) (h : okA n a) (h' : okA n b) : f_exchange_state scr [int n, .dat (ad a), .dat (ad b)] s = .ok (.dat (firstD n (a ++ b) (b ++ a))) s := by
  have := h.1
  have := h'.1
  refine r_fn rfl (xs_nx (x_exp (e_call (es_cons (e_var rfl) es_nil) (r_check_items scr s hn))) (xs_nx (x_exp (e_call (es_cons (e_var rfl) (es_cons (e_var rfl) es_nil)) (r_check_action scr s hn h))) (xs_nx (x_exp (e_call (es_cons (e_var rfl) (es_cons (e_var rfl) es_nil)) (r_check_action scr s hn h')))
    (xs_rt (x_ret (e_call (es_cons (e_var rfl) (es_cons (e_bin (e_var rfl) (e_var rfl) (ad_app a b (by omega))) (es_cons (e_bin (e_var rfl) (e_var rfl) (ad_app b a (by omega))) es_nil))) (r_first scr s hn (app_ok h.2 h'.2) (app_ok h'.2 h.2))))))))
theorem r_back {n : Nat} {a b : List Op} (hn : okN n) (h : okA n a) (h' : okA n b) : f_back_state scr [int n, .dat (ad a), .dat (ad b)] s = .ok (.dat (firstD n (a ++ b) [])) s := by
  have := h.1
  have := h'.1
  refine r_fn rfl (xs_nx (x_exp (e_call (es_cons (e_var rfl) es_nil) (r_check_items scr s hn))) (xs_nx (x_exp (e_call (es_cons (e_var rfl) (es_cons (e_var rfl) es_nil)) (r_check_action scr s hn h))) (xs_nx (x_exp (e_call (es_cons (e_var rfl) (es_cons (e_var rfl) es_nil)) (r_check_action scr s hn h')))
    (xs_rt (x_ret (e_call (es_cons (e_var rfl) (es_cons (e_bin (e_var rfl) (e_var rfl) (ad_app a b (by omega))) (es_cons (e_tup es_nil rfl rfl) es_nil))) (r_first (b := []) scr s hn (app_ok h.2 h'.2) (fun o h => by cases h))))))))
end K03
set_option Elab.async false
set_option linter.all false
set_option maxRecDepth 100000
set_option maxHeartbeats 4000000
namespace K03
open PySem BK
variable (scr : List Int) (s : Twn)
/-! ### what loses nothing -/
def inj (n : Nat) (a : List Op) : Bool := decide ((once ((statesL n).map (appl a))).length = (statesL n).length)
theorem intL_map : ∀ xs : List Int, intL (xs.map .int) = some xs
  | [] => rfl
  | x :: xs => by
    rw [List.map_cons]
    unfold intL
    rw [intL_map xs]
    rfl
theorem intTs_map : ∀ l : List St, intTs (l.map sd) = some l
  | [] => rfl
  | x :: l => by
    show (match intL (x.map .int), intTs (l.map sd) with
      | some x, some xs => some (x :: xs)
      | _, _ => none) = _
    rw [intL_map x, intTs_map l]
theorem states_len {n : Nat} (hn : okN n) : (statesL n).length ≤ 27 := by
  rcases hn with rfl | rfl | rfl <;> decide
theorem eq_int (i j : Int) : opCmp .eq (int i) (int j) = some (decide (i = j)) := by
  show (if okD (.int i) && okD (.int j) then some (i == j) else none) = _
  have : (i == j) = decide (i = j) := by rw [Bool.eq_iff_iff]; simp
  rw [this]
  rfl
theorem r_loses {n : Nat} {a : List Op} (hn : okN n) (ha : ∀ o ∈ a, o.ok n = true) : f_loses_nothing scr [int n, .dat (ad a)] s = .ok (bl (inj n a)) s := by
  have hl := states_len hn
  have hlc : ev (callD fs14 scr) false (.lc [3] (.v 3) (.seq (.var 2)) (.call 6 (.cons (.var 1) (.cons (.var 3) .nil)))) [some (false, int n), some (false, .dat (ad a)), some (false, lst ((statesL n).map sd)), none] s = .ok (lst ((statesL n).map fun x => sd (appl a x))) s := by
    refine e_lc (i_seq (e_var rfl) rfl) rfl (go_mapG (g := sd) (f := fun x => sd (appl a x)) fun x hx => lc_turn rfl (e_call (es_cons (e_var rfl) (es_cons (e_var rfl) es_nil)) ?_)) (fits_small (by rw [List.length_map]; omega))
    exact r_applied scr s ha (mem_states.mp hx).1
  refine r_fn rfl (xs_nx (x_asg (e_call (es_cons (e_var rfl) es_nil) (r_states scr s hn))) (xs_rt (x_ret (e_cmp (e_lset (r := int (once ((statesL n).map (appl a))).length) hlc ?_) (e_p1 (r := int (statesL n).length) (e_var rfl) ?_) ?_))))
  · show (if ((statesL n).map fun x => sd (appl a x)).length < 64 then (intTs ((statesL n).map fun x => sd (appl a x))).map fun l => int (once l).length else none) = _
    rw [List.length_map, if_pos (by omega)]
    have : ((statesL n).map fun x => sd (appl a x)) = ((statesL n).map (appl a)).map sd := by rw [List.map_map]; rfl
    rw [this, intTs_map]
    rfl
  · show some (int ((statesL n).map sd).length) = _
    rw [List.length_map]
  · rw [eq_int]
    unfold inj
    rw [Bool.eq_iff_iff.mpr (by simp only [decide_eq_true_eq]; omega : (decide (((once ((statesL n).map (appl a))).length : Int) = ((statesL n).length : Int)) = true ↔ decide ((once ((statesL n).map (appl a))).length = (statesL n).length) = true))]
theorem r_reversible {n : Nat} {a : List Op} (hn : okN n) (h : okA n a) : f_is_reversible scr [int n, .dat (ad a)] s = .ok (bl (inj n a)) s :=
  r_fn rfl (xs_nx (x_exp (e_call (es_cons (e_var rfl) es_nil) (r_check_items scr s hn))) (xs_nx (x_exp (e_call (es_cons (e_var rfl) (es_cons (e_var rfl) es_nil)) (r_check_action scr s hn h))) (xs_rt (x_ret (e_call (es_cons (e_var rfl) (es_cons (e_var rfl) es_nil)) (r_loses scr s hn h.2))))))
/-! ### all operations, sorted -/
def opsL (n : Nat) : List Op := (ops0 n).mergeSort fun a b => PySem.W.dataLe false id a.d b.d
theorem mem_opsL {n : Nat} {o : Op} : o ∈ opsL n ↔ o.ok n = true := by
  unfold opsL
  rw [List.mem_mergeSort]
  exact mem_ops0
theorem opsL_sort (n : Nat) : sortD ((ops0 n).map Op.d) = (opsL n).map Op.d := by
  unfold sortD opsL
  rw [List.map_mergeSort]
  intro a _ b _
  rfl
theorem opsL_len {n : Nat} (hn : okN n) : (opsL n).length ≤ 21 := by
  unfold opsL
  rw [List.length_mergeSort]
  rcases hn with rfl | rfl | rfl <;> decide
theorem r_operations {n : Nat} (hn : okN n) : f_operations_of scr [int n] s = .ok (lst ((opsL n).map Op.d)) s := by
  have key : ∀ (n : Nat) (env' : BK.Env), env'[1]? = some (some (true, lst ((ops0 n).map Op.d))) → sortable ((ops0 n).map Op.d) = true → ex (callD fs16 scr) 64 (.for (.v 2) (.rng (.var 0))
    (.cons (.ext 1 (.bin .add (.lc [4] (.v 4) (.rng (.cst (PyData.int 3))) (.tup (.cons (.cst (PyData.str ("set" : PySem.Str))) (.cons (.var 2) (.cons (.var 4) .nil))))) (.lst (.cons (.tup (.cons (.cst (PyData.str ("add" : PySem.Str))) (.cons (.var 2) (.cons (.cst (PyData.int 1)) .nil)))) (.cons (.tup (.cons (.cst (PyData.str ("add" : PySem.Str))) (.cons (.var 2) (.cons (.cst (PyData.int 2)) .nil)))) .nil)))))
    (.cons (.ext 1 (.lcIf [3] (.v 3) (.rng (.var 0)) (.cmp .ne (.var 3) (.var 2)) (.tup (.cons (.cst (PyData.str ("copy" : PySem.Str))) (.cons (.var 2) (.cons (.var 3) .nil)))))) .nil))) [some (false, int n), some (true, lst []), none, none, none] s = .ok (.nx env') s →
    f_operations_of scr [int n] s = .ok (lst ((opsL n).map Op.d)) s := by
    intro n env' h1 h2 h3
    refine r_fn rfl (xs_nx (x_own (e_lst es_nil rfl rfl)) (xs_nx h3 (xs_rt (x_ret (e_p1 (e_varO h1) ?_)))))
    show (if sortable ((ops0 n).map Op.d) then some (lst (sortD ((ops0 n).map Op.d))) else none) = _
    rw [h2, if_pos rfl, opsL_sort]
  rcases hn with rfl | rfl | rfl
  · exact key 1 [some (false, int 1), some (true, lst ((ops0 1).map Op.d)), some (false, int 0), none, none] rfl (by decide +kernel) (by with_unfolding_all rfl)
  · exact key 2 [some (false, int 2), some (true, lst ((ops0 2).map Op.d)), some (false, int 1), none, none] rfl (by decide +kernel) (by with_unfolding_all rfl)
  · exact key 3 [some (false, int 3), some (true, lst ((ops0 3).map Op.d)), some (false, int 2), none, none] rfl (by decide +kernel) (by with_unfolding_all rfl)
/-! ### the way back -/
def isId (n : Nat) (c : List Op) : Bool := isNon (firstD n c [])
def rowsAt (n : Nat) : Nat → List (List Op)
  | 0 => [[]]
  | t + 1 => (rowsAt n t).flatMap fun b => (opsL n).map fun o => b ++ [o]
def wb (n : Nat) (a : List Op) : Option (List Op) := if inj n a then ((rowsAt n 0).find? fun b => isId n (a ++ b)).or (((rowsAt n 1).find? fun b => isId n (a ++ b)).or ((rowsAt n 2).find? fun b => isId n (a ++ b))) else none
def optD : Option (List Op) → PyData
  | some b => ad b
  | none => .none
theorem rows_ok {n : Nat} : ∀ {t : Nat} {b : List Op}, b ∈ rowsAt n t → b.length = t ∧ ∀ o ∈ b, o.ok n = true
  | 0, b, h => by
    unfold rowsAt at h
    rw [List.mem_singleton] at h
    subst h
    exact ⟨rfl, fun o h => by cases h⟩
  | t + 1, b, h => by
    unfold rowsAt at h
    rw [List.mem_flatMap] at h
    obtain ⟨c, hc, hb⟩ := h
    obtain ⟨o, ho, rfl⟩ := List.mem_map.mp hb
    obtain ⟨h1, h2⟩ := rows_ok hc
    refine ⟨by simp [h1], fun q hq => ?_⟩
    rcases List.mem_append.mp hq with hq | hq
    · exact h2 q hq
    · rw [List.mem_singleton.mp hq]
      exact mem_opsL.mp ho
theorem flat_len {α β : Type} {l : List α} {f : α → List β} {k : Nat} (h : ∀ x ∈ l, (f x).length ≤ k) : (l.flatMap f).length ≤ l.length * k := by
  induction l with
  | nil => simp
  | cons x l ih =>
    rw [List.flatMap_cons, List.length_append, List.length_cons, Nat.succ_mul]
    have := h x List.mem_cons_self
    have := ih fun y hy => h y (List.mem_cons_of_mem _ hy)
    omega
theorem rows_len {n : Nat} (hn : okN n) : ∀ t, (rowsAt n t).length ≤ 21 ^ t
  | 0 => by simp [rowsAt]
  | t + 1 => by
    unfold rowsAt
    refine Nat.le_trans (flat_len (k := 21) fun b _ => ?_) ?_
    · rw [List.length_map]
      exact opsL_len hn
    · rw [Nat.pow_succ]
      exact Nat.mul_le_mul_right _ (rows_len hn t)
abbrev wEnv (n : Nat) (a : List Op) (rows : List (List Op)) (x3 x4 x5 : Option (Bool × D)) : BK.Env := [some (false, int n), some (false, .dat (ad a)), some (false, lst (rows.map ad)), x3, x4, x5, none]
abbrev wBody : CSs := (.cons (.for (.v 4) (.seq (.var 2))
    (.cons (.iff (.isN (.call 10 (.cons (.var 0) (.cons (.bin .add (.var 1) (.var 4)) (.cons (.tup .nil) .nil)))))
    (.cons (.ret (.var 4)) .nil) .nil) .nil))
    (.cons (.own 5 (.lst .nil))
    (.cons (.for (.v 4) (.seq (.var 2))
    (.cons (.ext 5 (.lc [6] (.v 6) (.seq (.call 16 (.cons (.var 0) .nil))) (.bin .add (.var 4) (.tup (.cons (.var 6) .nil))))) .nil))
    (.cons (.frz [5])
    (.cons (.asg (.v 2) (.ite (.cmp .lt (.var 3) (.cst (PyData.int 2))) (.var 5) (.lst .nil))) .nil)))))
theorem ad_one (b : List Op) (o : Op) (h : b.length ≤ 900) : opBin .add (.dat (ad b)) (tup [o.d]) = some (.dat (ad (b ++ [o]))) := ad_app b [o] (by simp; omega)
/-- one turn of the search -/
theorem way_turn {n : Nat} {a : List Op} (hn : okN n) (h : okA n a) {t : Nat} (ht : t < 3) (x4 x5 : Option (Bool × D)) (x3 : Option (Bool × D)) :
    (∀ b, (rowsAt n t).find? (fun b => isId n (a ++ b)) = some b → (do
      let env' ← M.of (bindTg (.v 3) (.int (t : Int)) (wEnv n a (rowsAt n t) x3 x4 x5))
      exs (callD fs17 scr) 64 wBody env') s = .ok (.rt (.dat (ad b))) s) ∧
    ((rowsAt n t).find? (fun b => isId n (a ++ b)) = none → ∃ y3 y4 y5, (do
      let env' ← M.of (bindTg (.v 3) (.int (t : Int)) (wEnv n a (rowsAt n t) x3 x4 x5))
      exs (callD fs17 scr) 64 wBody env') s = .ok (.nx (wEnv n a (if t < 2 then rowsAt n (t + 1) else []) y3 y4 y5)) s) := by
  have hal := h.1
  have hrl := rows_len hn t
  have h21 : 21 ^ t ≤ 441 := by
    have : t = 0 ∨ t = 1 ∨ t = 2 := by omega
    rcases this with rfl | rfl | rfl <;> decide
  obtain ⟨f1, f2⟩ := for_find (s := s) (g := ad) (turn := fun x env => do
      let env' ← M.of (bindTg (.v 4) x env)
      exs (callD fs17 scr) 64 (.cons (.iff (.isN (.call 10 (.cons (.var 0) (.cons (.bin .add (.var 1) (.var 4)) (.cons (.tup .nil) .nil))))) (.cons (.ret (.var 4)) .nil) .nil) .nil) env') (p := fun b => isId n (a ++ b)) (res := fun x => .dat (ad x)) (xs := rowsAt n t)
    (env := wEnv n a (rowsAt n t) (some (false, int t)) x4 x5) (fun env => ∃ y, env = wEnv n a (rowsAt n t) (some (false, int t)) y x5) ⟨x4, rfl⟩ (by
      rintro b hb env ⟨y, rfl⟩
      obtain ⟨hbl, hbo⟩ := rows_ok hb
      have hc : ev (callD fs17 scr) true (.isN (.call 10 (.cons (.var 0) (.cons (.bin .add (.var 1) (.var 4)) (.cons (.tup .nil) .nil))))) (wEnv n a (rowsAt n t) (some (false, int t)) (some (false, .dat (ad b))) x5) s = .ok (bl (isId n (a ++ b))) s :=
        e_isN (e_call (es_cons (e_var rfl) (es_cons (e_bin (e_var rfl) (e_var rfl) (ad_app a b (by omega))) (es_cons (e_tup es_nil rfl rfl) es_nil))) (r_first (b := []) scr s hn (app_ok h.2 hbo) (fun o h => by cases h))) rfl
      refine ⟨fun hp => ?_, fun hp => ⟨_, ?_, some (false, .dat (ad b)), rfl⟩⟩
      · have hp : isId n (a ++ b) = true := hp
        rw [hp] at hc
        exact b_ok (of_ok rfl) (xs_rt (x_iffT hc (xs_rt (x_ret (e_var rfl)))))
      · have hp : isId n (a ++ b) = false := hp
        rw [hp] at hc
        exact b_ok (of_ok rfl) (xs_nx (x_iffF hc xs_nil) xs_nil))
  refine ⟨fun b hb => ?_, fun hno => ?_⟩
  · exact b_ok (of_ok rfl) (xs_rt (x_for (i_seq (e_var rfl) rfl) (f1 b hb)))
  · obtain ⟨env1, g1, y, rfl⟩ := f2 hno
    -- the longer ones
    obtain ⟨env2, s2, g2, ⟨z4, rfl⟩, rfl⟩ := for_inv (s := s) (turn := fun x env => do
        let env' ← M.of (bindTg (.v 4) x env)
        exs (callD fs17 scr) 64 (.cons (.ext 5 (.lc [6] (.v 6) (.seq (.call 16 (.cons (.var 0) .nil))) (.bin .add (.var 4) (.tup (.cons (.var 6) .nil))))) .nil) env') (xs := (rowsAt n t).map ad)
      (env := wEnv n a (rowsAt n t) (some (false, int t)) y (some (true, lst [])))
      (fun i env s' => (∃ z4, env = wEnv n a (rowsAt n t) (some (false, int t)) z4 (some (true, lst ((((rowsAt n t).take i).flatMap fun b => (opsL n).map fun o => b ++ [o]).map ad)))) ∧ s' = s) ⟨⟨y, rfl⟩, rfl⟩ (by
        rintro i x env s' hx ⟨⟨z4, rfl⟩, rfl⟩
        rw [List.getElem?_map] at hx
        cases hb : (rowsAt n t)[i]? with
        | none => rw [hb] at hx; cases hx
        | some b =>
          rw [hb] at hx
          cases hx
          obtain ⟨hbl, hbo⟩ := rows_ok (List.mem_of_getElem? hb)
          have hil : i < (rowsAt n t).length := (List.getElem?_eq_some_iff.mp hb).1
          have hol := opsL_len hn
          have hlen : ((((rowsAt n t).take i).flatMap fun b => (opsL n).map fun o => b ++ [o]).map ad).length ≤ 441 * 21 := by
            rw [List.length_map]
            refine Nat.le_trans (flat_len (k := 21) fun b _ => by rw [List.length_map]; exact hol) (Nat.mul_le_mul_right _ ?_)
            rw [List.length_take]
            omega
          have hlc : ev (callD fs17 scr) true (.lc [6] (.v 6) (.seq (.call 16 (.cons (.var 0) .nil))) (.bin .add (.var 4) (.tup (.cons (.var 6) .nil)))) (wEnv n a (rowsAt n t) (some (false, int t)) (some (false, .dat (ad b))) (some (true, lst ((((rowsAt n t).take i).flatMap fun b => (opsL n).map fun o => b ++ [o]).map ad)))) s' = .ok (lst ((opsL n).map fun o => ad (b ++ [o]))) s' := by
            refine e_lc (i_seq (e_call (es_cons (e_var rfl) es_nil) (r_operations scr s' hn)) rfl) rfl (go_mapG (g := Op.d) (f := fun o => ad (b ++ [o])) fun o ho => lc_turn rfl (e_bin (e_var rfl) (e_tup (es_cons (e_var rfl) es_nil) rfl rfl) (ad_one b o (by omega)))) (fits_small (by rw [List.length_map]; omega))
          refine ⟨_, s', b_ok (of_ok rfl) (xs_nx (x_ext rfl hlc ?_) xs_nil), ⟨some (false, .dat (ad b)), ?_⟩, rfl⟩
          · rw [sizeLine_eq]
            simp only [List.length_map] at hlen ⊢
            omega
          · have e : (((rowsAt n t).take (i + 1)).flatMap fun b => (opsL n).map fun o => b ++ [o]).map ad = ((((rowsAt n t).take i).flatMap fun b => (opsL n).map fun o => b ++ [o]).map ad) ++ ((opsL n).map fun o => ad (b ++ [o])) := by
              rw [List.take_add_one, hb, List.flatMap_append, List.map_append]
              congr 1
              show ([b].flatMap _).map ad = _
              simp
            rw [e]
            rfl)
    rw [List.length_map, List.take_length] at g2
    have hlt : ∀ E : BK.Env, E[3]? = some (some (false, int t)) → ev (callD fs17 scr) true (.cmp .lt (.var 3) (.cst (PyData.int 2))) E s2 = .ok (bl (decide (t < 2))) s2 := fun E hE => by
      refine e_cmp (e_var hE) e_cst ?_
      show some (decide ((t : Int) < 2)) = _
      rw [Bool.eq_iff_iff.mpr (by simp only [decide_eq_true_eq]; omega : (decide ((t : Int) < 2) = true ↔ decide (t < 2) = true))]
    by_cases h2 : t < 2
    · rw [if_pos h2]
      rw [decide_eq_true h2] at hlt
      refine ⟨some (false, int t), z4, some (false, lst ((rowsAt n (t + 1)).map ad)), b_ok (of_ok rfl) (xs_nx (x_for (i_seq (e_var rfl) rfl) g1) (xs_nx (x_own (e_lst es_nil rfl rfl)) (xs_nx (x_for (i_seq (e_var rfl) rfl) g2) (xs_nx x_frz (xs_nx (x_asg (e_iteT (hlt _ rfl) (e_var rfl))) xs_nil)))))⟩
    · rw [if_neg h2]
      rw [decide_eq_false h2] at hlt
      refine ⟨some (false, int t), z4, some (false, lst ((rowsAt n (t + 1)).map ad)), b_ok (of_ok rfl) (xs_nx (x_for (i_seq (e_var rfl) rfl) g1) (xs_nx (x_own (e_lst es_nil rfl rfl)) (xs_nx (x_for (i_seq (e_var rfl) rfl) g2) (xs_nx x_frz (xs_nx (x_asg (e_iteF (hlt _ rfl) (e_lst es_nil rfl rfl))) xs_nil)))))⟩
theorem r_way {n : Nat} {a : List Op} (hn : okN n) (h : okA n a) : f_way_back scr [int n, .dat (ad a)] s = .ok (.dat (optD (wb n a))) s := by
  cases hi : inj n a with
  | false =>
    have e : wb n a = none := by unfold wb; rw [hi]; rfl
    rw [e]
    have hl := r_loses scr s hn h.2
    rw [hi] at hl
    exact r_fn rfl (xs_nx (x_exp (e_call (es_cons (e_var rfl) es_nil) (r_check_items scr s hn))) (xs_nx (x_exp (e_call (es_cons (e_var rfl) (es_cons (e_var rfl) es_nil)) (r_check_action scr s hn h)))
      (xs_rt (x_iffT (e_not (e_call (es_cons (e_var rfl) (es_cons (e_var rfl) es_nil)) hl) rfl) (xs_rt (x_ret e_cst))))))
  | true =>
    have hl := r_loses scr s hn h.2
    rw [hi] at hl
    have hw : ∀ r : Res Fl, forGo (fun x env => do
        let env' ← M.of (bindTg (.v 3) x env)
        exs (callD fs17 scr) 64 wBody env') (rngD 3) (wEnv n a (rowsAt n 0) none none none) s = r → (∀ d, r = .ok (.rt d) s → f_way_back scr [int n, .dat (ad a)] s = .ok d s) ∧ (∀ env', r = .ok (.nx env') s → f_way_back scr [int n, .dat (ad a)] s = .ok non s) := by
      intro r hr
      refine ⟨fun d e => ?_, fun env' e => ?_⟩
      · rw [e] at hr
        exact r_fn rfl (xs_nx (x_exp (e_call (es_cons (e_var rfl) es_nil) (r_check_items scr s hn))) (xs_nx (x_exp (e_call (es_cons (e_var rfl) (es_cons (e_var rfl) es_nil)) (r_check_action scr s hn h)))
          (xs_nx (x_iffF (e_not (e_call (es_cons (e_var rfl) (es_cons (e_var rfl) es_nil)) hl) rfl) xs_nil) (xs_nx (x_asg (e_lst (es_cons (e_tup es_nil rfl rfl) es_nil) rfl rfl)) (xs_rt (x_for (i_rng e_cst ⟨by decide, by decide⟩) hr))))))
      · rw [e] at hr
        exact r_fn rfl (xs_nx (x_exp (e_call (es_cons (e_var rfl) es_nil) (r_check_items scr s hn))) (xs_nx (x_exp (e_call (es_cons (e_var rfl) (es_cons (e_var rfl) es_nil)) (r_check_action scr s hn h)))
          (xs_nx (x_iffF (e_not (e_call (es_cons (e_var rfl) (es_cons (e_var rfl) es_nil)) hl) rfl) xs_nil) (xs_nx (x_asg (e_lst (es_cons (e_tup es_nil rfl rfl) es_nil) rfl rfl)) (xs_nx (x_for (i_rng e_cst ⟨by decide, by decide⟩) hr) (xs_rt (x_ret e_cst)))))))
    have e3 : rngD 3 = [.int ((0 : Nat) : Int), .int ((1 : Nat) : Int), .int ((2 : Nat) : Int)] := rfl
    rw [e3] at hw
    unfold wb
    rw [hi]
    simp only [if_true]
    obtain ⟨a1, a2⟩ := way_turn scr s hn h (t := 0) (by decide) none none none
    cases h0 : (rowsAt n 0).find? fun b => isId n (a ++ b) with
    | some b =>
      rw [Option.some_or]
      refine (hw _ rfl).1 _ ?_
      unfold forGo
      simp only [bind_eq]
      exact b_ok (a1 b h0) rfl
    | none =>
      rw [Option.none_or]
      obtain ⟨y3, y4, y5, g0⟩ := a2 h0
      rw [if_pos (by decide)] at g0
      obtain ⟨b1, b2⟩ := way_turn scr s hn h (t := 1) (by decide) y4 y5 y3
      cases h1 : (rowsAt n 1).find? fun b => isId n (a ++ b) with
      | some b =>
        rw [Option.some_or]
        refine (hw _ rfl).1 _ ?_
        unfold forGo
        simp only [bind_eq]
        refine b_ok g0 ?_
        show forGo _ _ _ s = _
        unfold forGo
        simp only [bind_eq]
        exact b_ok (b1 b h1) rfl
      | none =>
        rw [Option.none_or]
        obtain ⟨z3, z4, z5, g1⟩ := b2 h1
        rw [if_pos (by decide)] at g1
        obtain ⟨c1, c2⟩ := way_turn scr s hn h (t := 2) (by decide) z4 z5 z3
        cases h2 : (rowsAt n 2).find? fun b => isId n (a ++ b) with
        | some b =>
          refine (hw _ rfl).1 _ ?_
          unfold forGo
          simp only [bind_eq]
          refine b_ok g0 ?_
          show forGo _ _ _ s = _
          unfold forGo
          simp only [bind_eq]
          refine b_ok g1 ?_
          show forGo _ _ _ s = _
          unfold forGo
          simp only [bind_eq]
          exact b_ok (c1 b h2) rfl
        | none =>
          obtain ⟨w3, w4, w5, g2⟩ := c2 h2
          rw [if_neg (by decide)] at g2
          refine (hw _ rfl).2 (wEnv n a [] w3 w4 w5) ?_
          unfold forGo
          simp only [bind_eq]
          refine b_ok g0 ?_
          show forGo _ _ _ s = _
          unfold forGo
          simp only [bind_eq]
          refine b_ok g1 ?_
          show forGo _ _ _ s = _
          unfold forGo
          simp only [bind_eq]
          refine b_ok g2 ?_
          rfl
end K03
set_option Elab.async false
set_option linter.all false
set_option maxRecDepth 100000
set_option maxHeartbeats 4000000
namespace K03
open PySem BK
variable (scr : List Int) (s : Twn)
/-! ### an action is drawn -/
abbrev aEnv (n : Nat) (a : List Op) (x4 x5 x6 x7 : Option (Bool × D)) : BK.Env := [some (false, .scr), some (false, .town), some (false, int n), some (false, .dat (ad a)), x4, x5, x6, x7]
abbrev dBody : CSs := (.cons (.par [5, 6] (.cons (.call 18 (.cons (.var 0) (.cons (.var 1) (.cons (.cst (PyData.int 4)) .nil)))) (.cons (.call 18 (.cons (.var 0) (.cons (.var 1) (.cons (.var 2) .nil)))) .nil)))
    (.cons (.iff (.cmp .lt (.var 5) (.cst (PyData.int 2)))
    (.cons (.asg (.v 3) (.bin .add (.var 3) (.tup (.cons (.tup (.cons (.cst (PyData.str ("add" : PySem.Str))) (.cons (.var 6) (.cons (.bin .add (.cst (PyData.int 1)) (.call 18 (.cons (.var 0) (.cons (.var 1) (.cons (.cst (PyData.int 2)) .nil))))) .nil)))) .nil)))) .nil)
    (.cons (.iff (.or (.cons (.cmp .eq (.var 5) (.cst (PyData.int 2))) (.cons (.cmp .eq (.var 2) (.cst (PyData.int 1))) .nil)))
    (.cons (.asg (.v 3) (.bin .add (.var 3) (.tup (.cons (.tup (.cons (.cst (PyData.str ("set" : PySem.Str))) (.cons (.var 6) (.cons (.call 18 (.cons (.var 0) (.cons (.var 1) (.cons (.cst (PyData.int 3)) .nil)))) .nil)))) .nil)))) .nil)
    (.cons (.asg (.v 7) (.bin .add (.bin .add (.var 6) (.cst (PyData.int 1))) (.call 18 (.cons (.var 0) (.cons (.var 1) (.cons (.bin .sub (.var 2) (.cst (PyData.int 1))) .nil))))))
    (.cons (.asg (.v 3) (.bin .add (.var 3) (.tup (.cons (.tup (.cons (.cst (PyData.str ("copy" : PySem.Str))) (.cons (.var 6) (.cons (.bin .mod (.var 7) (.var 2)) .nil)))) .nil)))) .nil)))
    .nil)) .nil))
theorem turn_action {n : Nat} {a : List Op} (hl : scr.length ≤ 63) (hn : okN n) (ha : ∀ o ∈ a, o.ok n = true) (h3 : a.length ≤ 900) (ht : TwOk scr s) {x4 x5 x6 x7 : Option (Bool × D)} {k : Int} :
    ∃ o y4 y5 y6 y7 s', Op.ok n o = true ∧ TwOk scr s' ∧ (do
      let env' ← M.of (bindTg (.v 4) (.int k) (aEnv n a x4 x5 x6 x7))
      exs (callD fs19 scr) 64 dBody env') s = .ok (.nx (aEnv n (a ++ [o]) y4 y5 y6 y7)) s' := by
  have h1 : 1 ≤ n ∧ n ≤ 3 := by rcases hn with rfl | rfl | rfl <;> decide
  obtain ⟨wy, s1, e1, w4, t1⟩ := draw_nat (m := 4) hl ht (by decide) (by decide)
  obtain ⟨it, s2, e2, i4, t2⟩ := draw_nat (m := n) hl t1 (by omega) (by omega)
  have hp : ex (callD fs19 scr) 64 (.par [5, 6] (.cons (.call 18 (.cons (.var 0) (.cons (.var 1) (.cons (.cst (PyData.int 4)) .nil)))) (.cons (.call 18 (.cons (.var 0) (.cons (.var 1) (.cons (.var 2) .nil)))) .nil))) (aEnv n a (some (false, int k)) x5 x6 x7) s = .ok (.nx (aEnv n a (some (false, int k)) (some (false, int wy)) (some (false, int it)) x7)) s2 :=
    x_par (es_cons (e_call (es_cons (e_var rfl) (es_cons (e_var rfl) (es_cons e_cst es_nil))) e1) (es_cons (e_call (es_cons (e_var rfl) (es_cons (e_var rfl) (es_cons (e_var rfl) es_nil))) e2) es_nil)) rfl
  have hc : ev (callD fs19 scr) true (.cmp .lt (.var 5) (.cst (PyData.int 2))) (aEnv n a (some (false, int k)) (some (false, int wy)) (some (false, int it)) x7) s2 = .ok (bl (decide ((wy : Int) < 2))) s2 := e_cmp (e_var rfl) e_cst rfl
  by_cases hw : (wy : Int) < 2
  · rw [decide_eq_true hw] at hc
    obtain ⟨v, s3, e3, v2, t3⟩ := draw_nat (m := 2) hl t2 (by decide) (by decide)
    refine ⟨.add it (1 + v), some (false, int k), some (false, int wy), some (false, int it), x7, s3, by simp [Op.ok]; omega, t3, ?_⟩
    refine b_ok (of_ok rfl) (xs_nx hp (xs_nx (x_iffT hc (xs_nx (x_asg (e_bin (e_var rfl) (e_tup (es_cons (e_tup (ps := [.str "add", .int (it : Int), .int ((1 + v : Nat) : Int)]) (es_cons e_cst (es_cons (e_var rfl) (es_cons (e_bin (r := int ((1 + v : Nat) : Int)) e_cst (e_call (es_cons (e_var rfl) (es_cons (e_var rfl) (es_cons e_cst es_nil))) e3) ?_) es_nil))) rfl rfl) es_nil) rfl rfl) (ad_one a (.add it (1 + v)) h3))) xs_nil)) xs_nil))
    show some (int (1 + (v : Int))) = _
    rw [show ((1 + v : Nat) : Int) = 1 + (v : Int) by omega]
  · rw [decide_eq_false hw] at hc
    have ho : ev (callD fs19 scr) true (.or (.cons (.cmp .eq (.var 5) (.cst (PyData.int 2))) (.cons (.cmp .eq (.var 2) (.cst (PyData.int 1))) .nil))) (aEnv n a (some (false, int k)) (some (false, int wy)) (some (false, int it)) x7) s2 = .ok (bl (decide ((wy : Int) = 2) || (decide ((n : Int) = 1) || false))) s2 :=
      e_or (or_c (e_cmp (e_var rfl) e_cst (eq_int _ _)) (or_c (e_cmp (e_var rfl) e_cst (eq_int _ _)) or_nil))
    by_cases hq : (wy : Int) = 2 ∨ (n : Int) = 1
    · have hb : (decide ((wy : Int) = 2) || (decide ((n : Int) = 1) || false)) = true := by simpa using hq
      rw [hb] at ho
      obtain ⟨v, s3, e3, v2, t3⟩ := draw_nat (m := 3) hl t2 (by decide) (by decide)
      refine ⟨.set it v, some (false, int k), some (false, int wy), some (false, int it), x7, s3, by simp [Op.ok]; omega, t3, ?_⟩
      exact b_ok (of_ok rfl) (xs_nx hp (xs_nx (x_iffF hc (xs_nx (x_iffT ho (xs_nx (x_asg (e_bin (e_var rfl) (e_tup (es_cons (e_tup (es_cons e_cst (es_cons (e_var rfl) (es_cons (e_call (es_cons (e_var rfl) (es_cons (e_var rfl) (es_cons e_cst es_nil))) e3) es_nil))) rfl rfl) es_nil) rfl rfl) (ad_one a (.set it v) h3))) xs_nil)) xs_nil)) xs_nil))
    · have hb : (decide ((wy : Int) = 2) || (decide ((n : Int) = 1) || false)) = false := by
        rw [Bool.or_false, Bool.or_eq_false_iff]
        exact ⟨decide_eq_false fun z => hq (.inl z), decide_eq_false fun z => hq (.inr z)⟩
      rw [hb] at ho
      obtain ⟨v, s3, e3, v2, t3⟩ := draw_nat (m := n - 1) hl t2 (by omega) (by omega)
      have hj : (it + 1 + v) % n < n := Nat.mod_lt _ (by omega)
      have hne : it ≠ (it + 1 + v) % n := by
        have : n = 1 ∨ n = 2 ∨ n = 3 := hn
        intro z
        by_cases hb : it + 1 + v < n
        · rw [Nat.mod_eq_of_lt hb] at z
          omega
        · have : (it + 1 + v) % n = it + 1 + v - n := by
            rw [Nat.mod_eq_sub_mod (by omega), Nat.mod_eq_of_lt (by omega)]
          omega
      refine ⟨.cop it ((it + 1 + v) % n), some (false, int k), some (false, int wy), some (false, int it), some (false, int ((it + 1 + v : Nat) : Int)), s3, by simp [Op.ok, i4, hj, hne], t3, ?_⟩
      refine b_ok (of_ok rfl) (xs_nx hp (xs_nx (x_iffF hc (xs_nx (x_iffF ho (xs_nx (x_asg (d := int ((it + 1 + v : Nat) : Int)) (e_bin (e_bin (e_var rfl) e_cst rfl) (e_call (es_cons (e_var rfl) (es_cons (e_var rfl) (es_cons (e_bin (r := int ((n - 1 : Nat) : Int)) (e_var rfl) e_cst ?_) es_nil))) e3) ?_)) (xs_nx (x_asg (e_bin (e_var rfl) (e_tup (es_cons (e_tup (ps := [.str "copy", .int (it : Int), .int (((it + 1 + v) % n : Nat) : Int)]) (es_cons e_cst (es_cons (e_var rfl) (es_cons (e_bin (r := int (((it + 1 + v) % n : Nat) : Int)) (e_var rfl) (e_var rfl) ?_) es_nil))) rfl rfl) es_nil) rfl rfl) (ad_one a (.cop it ((it + 1 + v) % n)) h3))) xs_nil))) xs_nil)) xs_nil))
      · show some (int ((n : Int) - 1)) = _
        rw [show ((n - 1 : Nat) : Int) = (n : Int) - 1 by omega]
      · show some (int ((it : Int) + 1 + (v : Int))) = _
        rw [show ((it + 1 + v : Nat) : Int) = (it : Int) + 1 + (v : Int) by omega]
      · show (if (0 : Int) < n then some (int (((it + 1 + v : Nat) : Int) % (n : Int))) else none) = _
        rw [if_pos (by omega), ← Int.natCast_emod]
theorem r_action {n : Nat} (hl : scr.length ≤ 63) (hn : okN n) (ht : TwOk scr s) : ∃ a s', okA n a ∧ TwOk scr s' ∧ f_law_action scr [.scr, .town, int n] s = .ok (.dat (ad a)) s' := by
  obtain ⟨m, s1, e1, m4, t1⟩ := draw_nat (m := 4) hl ht (by decide) (by decide)
  have hrl : (rngD (m : Int)).length = m := by simp [rngD]
  obtain ⟨env', s', h1, a, y4, y5, y6, y7, rfl, ha, hle, ht'⟩ := for_inv (s := s1) (turn := fun x env => do
      let env' ← M.of (bindTg (.v 4) x env)
      exs (callD fs19 scr) 64 dBody env') (xs := rngD (m : Int)) (env := aEnv n [] none none none none) (fun i env s' => ∃ a y4 y5 y6 y7, env = aEnv n a y4 y5 y6 y7 ∧ (∀ o ∈ a, Op.ok n o = true) ∧ a.length = i ∧ TwOk scr s') ⟨[], none, none, none, none, rfl, fun o h => (by cases h), rfl, t1⟩ (by
      rintro i x env s' hx ⟨a, y4, y5, y6, y7, rfl, ha, hle, ht'⟩
      have hi : i < m := by
        have := (List.getElem?_eq_some_iff.mp hx).1
        rwa [hrl] at this
      have hx : x = .int (i : Int) := by
        simp only [rngD, Int.toNat_natCast, List.getElem?_map, List.getElem?_range hi, Option.map_some, Option.some.injEq] at hx
        exact hx.symm
      subst hx
      obtain ⟨o, z4, z5, z6, z7, s2, ho, t2, e⟩ := turn_action scr s' (x4 := y4) (x5 := y5) (x6 := y6) (x7 := y7) (k := (i : Int)) hl hn ha (by omega) ht'
      refine ⟨_, s2, e, a ++ [o], z4, z5, z6, z7, rfl, fun q hq => ?_, by simp [hle], t2⟩
      rcases List.mem_append.mp hq with hq | hq
      · exact ha q hq
      · rw [List.mem_singleton.mp hq]; exact ho)
  refine ⟨a, s', ⟨by rw [hle, hrl]; omega, ha⟩, ht', ?_⟩
  exact r_fn rfl (xs_nx (x_asg (e_tup es_nil rfl rfl)) (xs_nx (x_for (i_rng (e_call (es_cons (e_var rfl) (es_cons (e_var rfl) (es_cons e_cst es_nil))) e1) ⟨by omega, by omega⟩) h1) (xs_rt (x_ret (e_var rfl)))))
end K03
set_option Elab.async false
set_option linter.all false
set_option maxRecDepth 100000
set_option maxHeartbeats 4000000
namespace K03
open PySem BK
variable (scr : List Int) (s : Twn)
/-! ### plain facts -/
def optS : Option St → PyData
  | some xs => sd xs
  | none => .none
theorem firstD_eq (n : Nat) (a b : List Op) : firstD n a b = optS ((statesL n).find? (unl a b)) := by
  unfold firstD optS
  cases (statesL n).find? (unl a b) <;> rfl
theorem eq_opt (o o' : Option St) : opEq (.dat (optS o)) (.dat (optS o')) = some (decide (o = o')) := by
  cases o with
  | none =>
    cases o' with
    | none => rfl
    | some y =>
      show (if okD .none && okD (sd y) then some (PyData.eqv .none (sd y)) else none) = _
      rw [okD_sd]
      rfl
  | some x =>
    cases o' with
    | none =>
      show (if okD (sd x) && okD .none then some (PyData.eqv (sd x) .none) else none) = _
      rw [okD_sd]
      rfl
    | some y =>
      have := eq_sd x y
      show opEq (.dat (sd x)) (.dat (sd y)) = _
      rw [this]
      congr 1
      rw [Bool.eq_iff_iff]
      simp
theorem unl_comm (a b : List Op) : unl a b = unl b a := by
  funext x
  unfold unl
  rw [Bool.eq_iff_iff]
  simp only [decide_eq_true_eq]
  exact ⟨Ne.symm, Ne.symm⟩
/-- the states come in their order -/
theorem states_sorted {n : Nat} (hn : okN n) : (statesL n).Pairwise (fun x y => PySem.W.dataLt (sd y) (sd x) = false) ∧ ∀ x ∈ statesL n, PySem.W.dataLt (sd x) (sd x) = false := by
  rcases hn with rfl | rfl | rfl <;> exact ⟨by decide +kernel, by decide +kernel⟩
theorem first_before {n : Nat} (hn : okN n) {p : St → Bool} {st x : St} (h : (statesL n).find? p = some st) (hx : x ∈ statesL n) (hlt : PySem.W.dataLt (sd x) (sd st) = true) : p x = false := by
  obtain ⟨hp, l1, l2, e, hb⟩ := List.find?_eq_some_iff_append.mp h
  obtain ⟨s1, s2⟩ := states_sorted hn
  rw [e] at hx s1
  rcases List.mem_append.mp hx with hx | hx
  · simpa using hb x hx
  · rcases List.mem_cons.mp hx with rfl | hx
    · rw [s2 x (by rw [e]; simp)] at hlt
      cases hlt
    · have := (List.pairwise_cons.mp (List.pairwise_append.mp s1).2.1).1 x hx
      rw [this] at hlt
      cases hlt
theorem alike_ints : ∀ xs ys : List Int, PySem.W.alikeAll (xs.map .int) (ys.map .int) = true
  | [], _ => by rw [List.map_nil]; unfold PySem.W.alikeAll; rfl
  | _ :: _, [] => rfl
  | x :: xs, y :: ys => by
    rw [List.map_cons, List.map_cons]
    unfold PySem.W.alikeAll
    rw [alike_ints xs ys]
    rfl
theorem lt_sd (xs ys : St) : opCmp .lt (.dat (sd xs)) (.dat (sd ys)) = some (PySem.W.dataLt (sd xs) (sd ys)) := by
  show (if cmpOk (sd xs) (sd ys) then some (PySem.W.dataLt (sd xs) (sd ys)) else none) = _
  have : cmpOk (sd xs) (sd ys) = true := by
    unfold cmpOk
    rw [okD_sd, okD_sd]
    show (PySem.W.alikeAll (xs.map .int) (ys.map .int) && true && true) = true
    rw [alike_ints]
    rfl
  rw [this]
  rfl
theorem find_none {n : Nat} {p : St → Bool} (h : (statesL n).find? p = none) {x : St} (hx : x ∈ statesL n) : p x = false := by
  have := List.find?_eq_none.mp h x hx
  simpa using this
theorem find_p {n : Nat} {p : St → Bool} {st : St} (h : (statesL n).find? p = some st) : p st = true := List.find?_some h
theorem ne_sd (xs ys : St) : opCmp .ne (.dat (sd xs)) (.dat (sd ys)) = some (!decide (xs = ys)) := by
  show (opEq (.dat (sd xs)) (.dat (sd ys))).map (!·) = _
  rw [eq_sd]
  rfl
theorem eqS (x : St) (o : Option St) : opCmp .eq (.dat (sd x)) (.dat (optS o)) = some (decide (some x = o)) := eq_opt (some x) o
/-! ### shown -/
abbrev hEnv (n : Nat) (a b : List Op) (x3 x4 x5 x6 x7 : Option (Bool × D)) : BK.Env := [some (false, int n), some (false, .dat (ad a)), some (false, .dat (ad b)), x3, x4, x5, x6, x7]
abbrev b1 : CSs := (.cons (.asg (.v 5) (.call 7 (.cons (.var 0) (.cons (.var 2) (.cons (.call 7 (.cons (.var 0) (.cons (.var 1) (.cons (.var 4) .nil)))) .nil)))))
    (.cons (.asg (.v 6) (.call 7 (.cons (.var 0) (.cons (.var 1) (.cons (.call 7 (.cons (.var 0) (.cons (.var 2) (.cons (.var 4) .nil)))) .nil)))))
    (.cons (.iff (.or (.cons (.and (.cons (.isN (.var 3)) (.cons (.cmp .ne (.var 5) (.var 6)) .nil))) (.cons (.and (.cons (.cmp .eq (.var 4) (.var 3)) (.cons (.cmp .eq (.var 5) (.var 6)) .nil))) .nil)))
    (.cons (.ret (.cst (PyData.bool false))) .nil) .nil)
    (.cons (.iff (.and (.cons (.notN (.var 3)) (.cons (.cmp .lt (.var 4) (.var 3)) (.cons (.cmp .ne (.var 5) (.var 6)) .nil))))
    (.cons (.ret (.cst (PyData.bool false))) .nil) .nil) .nil))))
abbrev b2 : CSs := (.cons (.asg (.v 7) (.call 7 (.cons (.var 0) (.cons (.var 1) (.cons (.call 7 (.cons (.var 0) (.cons (.var 1) (.cons (.var 4) .nil)))) .nil)))))
    (.cons (.iff (.and (.cons (.isN (.var 3)) (.cons (.cmp .ne (.var 7) (.call 7 (.cons (.var 0) (.cons (.var 1) (.cons (.var 4) .nil))))) .nil)))
    (.cons (.ret (.cst (PyData.bool false))) .nil) .nil)
    (.cons (.iff (.and (.cons (.cmp .eq (.var 4) (.var 3)) (.cons (.cmp .eq (.var 7) (.call 7 (.cons (.var 0) (.cons (.var 1) (.cons (.var 4) .nil))))) .nil)))
    (.cons (.ret (.cst (PyData.bool false))) .nil) .nil) .nil)))
theorem turn_s1 {n : Nat} {a b : List Op} (hn : okN n) (h : okA n a) (h' : okA n b) {x : St} (hx : x ∈ statesL n) {x4 x5 x6 x7 : Option (Bool × D)} :
    ∃ y5 y6, (do
      let env' ← M.of (bindTg (.v 4) (sd x) (hEnv n a b (some (false, .dat (optS ((statesL n).find? (unl (a ++ b) (b ++ a)))))) x4 x5 x6 x7))
      exs (callD fs20 scr) 64 b1 env') s = .ok (.nx (hEnv n a b (some (false, .dat (optS ((statesL n).find? (unl (a ++ b) (b ++ a)))))) (some (false, .dat (sd x))) y5 y6 x7)) s := by
  have sx := mem_states.mp hx
  have sa := appl_ok h.2 sx
  have sb := appl_ok h'.2 sx
  refine ⟨some (false, .dat (sd (appl b (appl a x)))), some (false, .dat (sd (appl a (appl b x)))), ?_⟩
  generalize ho : (statesL n).find? (unl (a ++ b) (b ++ a)) = o
  have hu : unl (a ++ b) (b ++ a) x = !decide (appl b (appl a x) = appl a (appl b x)) := by
    unfold unl
    rw [appl_app, appl_app]
    simp
  have hx5 : ∀ E : BK.Env, E[0]? = some (some (false, int n)) → E[1]? = some (some (false, .dat (ad a))) → E[2]? = some (some (false, .dat (ad b))) → E[4]? = some (some (false, .dat (sd x))) →
      ev (callD fs20 scr) true (.call 7 (.cons (.var 0) (.cons (.var 2) (.cons (.call 7 (.cons (.var 0) (.cons (.var 1) (.cons (.var 4) .nil)))) .nil)))) E s = .ok (.dat (sd (appl b (appl a x)))) s := fun E q0 q1 q2 q4 =>
    e_call (es_cons (e_var q0) (es_cons (e_var q2) (es_cons (e_call (es_cons (e_var q0) (es_cons (e_var q1) (es_cons (e_var q4) es_nil))) (r_after scr s hn h sx)) es_nil))) (r_after scr s hn h' sa)
  have hx6 : ∀ E : BK.Env, E[0]? = some (some (false, int n)) → E[1]? = some (some (false, .dat (ad a))) → E[2]? = some (some (false, .dat (ad b))) → E[4]? = some (some (false, .dat (sd x))) →
      ev (callD fs20 scr) true (.call 7 (.cons (.var 0) (.cons (.var 1) (.cons (.call 7 (.cons (.var 0) (.cons (.var 2) (.cons (.var 4) .nil)))) .nil)))) E s = .ok (.dat (sd (appl a (appl b x)))) s := fun E q0 q1 q2 q4 =>
    e_call (es_cons (e_var q0) (es_cons (e_var q1) (es_cons (e_call (es_cons (e_var q0) (es_cons (e_var q2) (es_cons (e_var q4) es_nil))) (r_after scr s hn h' sx)) es_nil))) (r_after scr s hn h sb)
  have c1 : ev (callD fs20 scr) true (.or (.cons (.and (.cons (.isN (.var 3)) (.cons (.cmp .ne (.var 5) (.var 6)) .nil))) (.cons (.and (.cons (.cmp .eq (.var 4) (.var 3)) (.cons (.cmp .eq (.var 5) (.var 6)) .nil))) .nil))) (hEnv n a b (some (false, .dat (optS o))) (some (false, .dat (sd x))) (some (false, .dat (sd (appl b (appl a x))))) (some (false, .dat (sd (appl a (appl b x))))) x7) s = .ok (bl false) s := by
    have k := e_or (G := callD fs20 scr) (md := true) (s := s) (env := hEnv n a b (some (false, .dat (optS o))) (some (false, .dat (sd x))) (some (false, .dat (sd (appl b (appl a x))))) (some (false, .dat (sd (appl a (appl b x))))) x7)
      (or_c (e_and (an_c (e_isN (a := .var 3) (e_var rfl) rfl) (an_c (e_cmp (a := .var 5) (b := .var 6) (e_var rfl) (e_var rfl) (ne_sd _ _)) an_nil))) (or_c (e_and (an_c (e_cmp (a := .var 4) (b := .var 3) (e_var rfl) (e_var rfl) (eqS x o)) (an_c (e_cmp (o := .eq) (a := .var 5) (b := .var 6) (e_var rfl) (e_var rfl) (eq_sd _ _)) an_nil))) or_nil))
    rw [k]
    congr 2
    cases o with
    | none =>
      have hno := find_none ho hx
      rw [hu] at hno
      have he : decide (appl b (appl a x) = appl a (appl b x)) = true := by simpa using hno
      rw [he]
      simp
    | some st =>
      have hp := find_p ho
      by_cases e : x = st
      · subst e
        rw [hu] at hp
        have he : decide (appl b (appl a x) = appl a (appl b x)) = false := by simpa using hp
        rw [he]
        simp [isNon, optS, sd]
      · have : decide (some x = some st) = false := decide_eq_false fun z => e (Option.some.inj z)
        rw [this]
        simp [isNon, optS, sd]
  have c2 : ev (callD fs20 scr) true (.and (.cons (.notN (.var 3)) (.cons (.cmp .lt (.var 4) (.var 3)) (.cons (.cmp .ne (.var 5) (.var 6)) .nil)))) (hEnv n a b (some (false, .dat (optS o))) (some (false, .dat (sd x))) (some (false, .dat (sd (appl b (appl a x))))) (some (false, .dat (sd (appl a (appl b x))))) x7) s = .ok (bl false) s := by
    cases o with
    | none => exact e_and (an_f (e_notN (e_var rfl) rfl))
    | some st =>
      refine e_and (an_t (e_notN (e_var rfl) rfl) ?_)
      cases hlt : PySem.W.dataLt (sd x) (sd st) with
      | false =>
        refine an_f (e_cmp (e_var rfl) (e_var rfl) ?_)
        rw [← hlt]
        exact lt_sd x st
      | true =>
        have hno := first_before hn ho hx hlt
        rw [hu] at hno
        refine an_t (e_cmp (e_var rfl) (e_var rfl) (by rw [← hlt]; exact lt_sd x st)) (an_f (e_cmp (e_var rfl) (e_var rfl) ?_))
        rw [← hno]
        exact ne_sd _ _
  exact b_ok (of_ok rfl) (xs_nx (x_asg (hx5 _ rfl rfl rfl rfl)) (xs_nx (x_asg (hx6 _ rfl rfl rfl rfl)) (xs_nx (x_iffF c1 xs_nil) (xs_nx (x_iffF c2 xs_nil) xs_nil))))
theorem turn_s2 {n : Nat} {a b : List Op} (hn : okN n) (h : okA n a) {x : St} (hx : x ∈ statesL n) {x4 x5 x6 x7 : Option (Bool × D)} :
    ∃ y7, (do
      let env' ← M.of (bindTg (.v 4) (sd x) (hEnv n a b (some (false, .dat (optS ((statesL n).find? (unl a (a ++ a)))))) x4 x5 x6 x7))
      exs (callD fs20 scr) 64 b2 env') s = .ok (.nx (hEnv n a b (some (false, .dat (optS ((statesL n).find? (unl a (a ++ a)))))) (some (false, .dat (sd x))) x5 x6 y7)) s := by
  have sx := mem_states.mp hx
  have sa := appl_ok h.2 sx
  refine ⟨some (false, .dat (sd (appl a (appl a x)))), ?_⟩
  generalize ho : (statesL n).find? (unl a (a ++ a)) = o
  have hu : unl a (a ++ a) x = !decide (appl a (appl a x) = appl a x) := by
    unfold unl
    rw [appl_app, Bool.eq_iff_iff]
    simp only [decide_eq_true_eq, Bool.not_eq_true', decide_eq_false_iff_not]
    exact ⟨fun z q => z q.symm, fun z q => z q.symm⟩
  have hone : ∀ E : BK.Env, E[0]? = some (some (false, int n)) → E[1]? = some (some (false, .dat (ad a))) → E[4]? = some (some (false, .dat (sd x))) → ∀ md,
      ev (callD fs20 scr) md (.call 7 (.cons (.var 0) (.cons (.var 1) (.cons (.var 4) .nil)))) E s = .ok (.dat (sd (appl a x))) s := fun E q0 q1 q4 md =>
    e_call (es_cons (e_var q0) (es_cons (e_var q1) (es_cons (e_var q4) es_nil))) (r_after scr s hn h sx)
  have c1 : ev (callD fs20 scr) true (.and (.cons (.isN (.var 3)) (.cons (.cmp .ne (.var 7) (.call 7 (.cons (.var 0) (.cons (.var 1) (.cons (.var 4) .nil))))) .nil))) (hEnv n a b (some (false, .dat (optS o))) (some (false, .dat (sd x))) x5 x6 (some (false, .dat (sd (appl a (appl a x)))))) s = .ok (bl false) s := by
    cases o with
    | none =>
      have hno := find_none ho hx
      rw [hu] at hno
      refine e_and (an_t (e_isN (e_var rfl) rfl) (an_f (e_cmp (e_var rfl) (hone _ rfl rfl rfl _) ?_)))
      rw [← hno]
      exact ne_sd _ _
    | some st => exact e_and (an_f (e_isN (e_var rfl) rfl))
  have c2 : ev (callD fs20 scr) true (.and (.cons (.cmp .eq (.var 4) (.var 3)) (.cons (.cmp .eq (.var 7) (.call 7 (.cons (.var 0) (.cons (.var 1) (.cons (.var 4) .nil))))) .nil))) (hEnv n a b (some (false, .dat (optS o))) (some (false, .dat (sd x))) x5 x6 (some (false, .dat (sd (appl a (appl a x)))))) s = .ok (bl false) s := by
    by_cases e : some x = o
    · subst e
      have hp := find_p ho
      rw [hu] at hp
      have he : decide (appl a (appl a x) = appl a x) = false := by simpa using hp
      refine e_and (an_t (e_cmp (r := true) (e_var rfl) (e_var rfl) ?_) (an_f (e_cmp (e_var rfl) (hone _ rfl rfl rfl _) ?_)))
      · rw [eqS]
        simp
      · rw [← he]
        exact eq_sd _ _
    · refine e_and (an_f (e_cmp (e_var rfl) (e_var rfl) ?_))
      rw [eqS, decide_eq_false e]
  exact b_ok (of_ok rfl) (xs_nx (x_asg (e_call (es_cons (e_var rfl) (es_cons (e_var rfl) (es_cons (hone _ rfl rfl rfl _) es_nil))) (r_after scr s hn h sa))) (xs_nx (x_iffF c1 xs_nil) (xs_nx (x_iffF c2 xs_nil) xs_nil)))
theorem r_shown {n : Nat} {a b : List Op} (hn : okN n) (h : okA n a) (h' : okA n b) : f_law_shown scr [int n, .dat (ad a), .dat (ad b)] s = .ok (bl true) s := by
  obtain ⟨env1, s1, g1, ⟨w4, w5, w6, rfl⟩, rfl⟩ := for_inv (s := s) (turn := fun x env => do
      let env' ← M.of (bindTg (.v 4) x env)
      exs (callD fs20 scr) 64 b1 env') (xs := (statesL n).map sd) (env := hEnv n a b (some (false, .dat (optS ((statesL n).find? (unl (a ++ b) (b ++ a)))))) none none none none)
    (fun i env s' => (∃ w4 w5 w6, env = hEnv n a b (some (false, .dat (optS ((statesL n).find? (unl (a ++ b) (b ++ a)))))) w4 w5 w6 none) ∧ s' = s) ⟨⟨none, none, none, rfl⟩, rfl⟩ (by
      rintro i x env s' hx ⟨⟨w4, w5, w6, rfl⟩, rfl⟩
      obtain ⟨y, hy, rfl⟩ := List.mem_map.mp (List.mem_of_getElem? hx)
      obtain ⟨y5, y6, e⟩ := turn_s1 scr s' hn h h' hy (x4 := w4) (x5 := w5) (x6 := w6) (x7 := none)
      exact ⟨_, s', e, ⟨_, _, _, rfl⟩, rfl⟩)
  obtain ⟨env2, s2, g2, ⟨v4, v7, rfl⟩, rfl⟩ := for_inv (s := s1) (turn := fun x env => do
      let env' ← M.of (bindTg (.v 4) x env)
      exs (callD fs20 scr) 64 b2 env') (xs := (statesL n).map sd) (env := hEnv n a b (some (false, .dat (optS ((statesL n).find? (unl a (a ++ a)))))) w4 w5 w6 none)
    (fun i env s' => (∃ v4 v7, env = hEnv n a b (some (false, .dat (optS ((statesL n).find? (unl a (a ++ a)))))) v4 w5 w6 v7) ∧ s' = s1) ⟨⟨w4, none, rfl⟩, rfl⟩ (by
      rintro i x env s' hx ⟨⟨v4, v7, rfl⟩, rfl⟩
      obtain ⟨y, hy, rfl⟩ := List.mem_map.mp (List.mem_of_getElem? hx)
      obtain ⟨y7, e⟩ := turn_s2 scr s' hn h hy (b := b) (x4 := v4) (x5 := w5) (x6 := w6) (x7 := v7)
      exact ⟨_, s', e, ⟨_, _, rfl⟩, rfl⟩)
  have he := r_exchange scr s2 hn h h'
  have he' := r_exchange scr s2 hn h' h
  have hr := r_repeat scr s2 hn h
  rw [firstD_eq] at he he' hr
  rw [unl_comm] at he'
  refine r_fn rfl (xs_nx (x_asg (e_call (es_cons (e_var rfl) (es_cons (e_var rfl) (es_cons (e_var rfl) es_nil))) he)) (xs_nx (x_iffF (e_cmp (r := false) (e_call (es_cons (e_var rfl) (es_cons (e_var rfl) (es_cons (e_var rfl) es_nil))) he') (e_var rfl) ?_) xs_nil)
    (xs_nx (x_for (i_seq (e_call (es_cons (e_var rfl) es_nil) (r_all_states scr s2 hn)) rfl) g1) (xs_nx (x_asg (e_call (es_cons (e_var rfl) (es_cons (e_var rfl) es_nil)) hr)) (xs_nx (x_for (i_seq (e_call (es_cons (e_var rfl) es_nil) (r_all_states scr s2 hn)) rfl) g2) (xs_rt (x_ret e_cst)))))))
  show (opEq _ _).map (!·) = _
  rw [eq_opt]
  simp
end K03
set_option Elab.async false
set_option linter.all false
set_option maxRecDepth 100000
set_option maxHeartbeats 4000000
namespace K03
open PySem BK
variable (scr : List Int) (s : Twn)
/-! ### by hand: small actions -/
theorem d_set : ∀ n ∈ [1, 2, 3], ∀ it ∈ List.range n, ∀ v ∈ [0, 1, 2], (statesL n).find? (unl [.set it v] ([.set it v] ++ [.set it v])) = none ∧ inj n [.set it v] = false := by decide +kernel
theorem d_add : ∀ n ∈ [1, 2, 3], ∀ it ∈ List.range n, ∀ v ∈ [1, 2], (statesL n).find? (unl [.add it v] ([.add it v] ++ [.add it v])) = some (List.replicate n 0) ∧ inj n [.add it v] = true ∧ isId n ([.add it v] ++ []) = false ∧
    isId n ([.add it v] ++ [.add it (3 - v)]) = true ∧ ∀ o ∈ ops0 n, isId n ([.add it v] ++ [o]) = true → o = .add it (3 - v) := by decide +kernel
theorem d_two : ∀ n ∈ [2, 3], ∀ it ∈ List.range n, (statesL n).find? (unl ([.add it 1] ++ [.set ((it + 1) % n) 2]) ([.set ((it + 1) % n) 2] ++ [.add it 1])) = none ∧
    (statesL n).find? (unl [.cop it ((it + 1) % n)] ([.cop it ((it + 1) % n)] ++ [.cop it ((it + 1) % n)])) = none ∧ inj n [.cop it ((it + 1) % n)] = false := by decide +kernel
theorem find_only {α : Type} {p : α → Bool} {x : α} : ∀ {l : List α}, x ∈ l → p x = true → (∀ y ∈ l, p y = true → y = x) → l.find? p = some x
  | y :: l, hx, hp, hu => by
    rw [List.find?_cons]
    cases hy : p y with
    | true =>
      rw [hu y List.mem_cons_self hy]
    | false =>
      rcases List.mem_cons.mp hx with rfl | hx
      · rw [hp] at hy
        cases hy
      · exact find_only hx hp fun z hz => hu z (List.mem_cons_of_mem _ hz)
theorem wb_add {n it v : Nat} (hn : okN n) (hi : it < n) (hv : v = 1 ∨ v = 2) : wb n [.add it v] = some [.add it (3 - v)] := by
  have hm : n ∈ [1, 2, 3] := by rcases hn with rfl | rfl | rfl <;> decide
  obtain ⟨_, h2, h3, h4, h5⟩ := d_add n hm it (List.mem_range.mpr hi) v (by rcases hv with rfl | rfl <;> decide)
  unfold wb
  rw [h2, if_pos rfl]
  have e0 : (rowsAt n 0).find? (fun b => isId n ([.add it v] ++ b)) = none := by
    unfold rowsAt
    rw [List.find?_cons, h3]
    rfl
  have e1 : (rowsAt n 1).find? (fun b => isId n ([.add it v] ++ b)) = some [.add it (3 - v)] := by
    have : rowsAt n 1 = (opsL n).map fun o => [o] := by
      show [[]].flatMap _ = _
      simp
    rw [this, List.find?_map]
    have hf : (opsL n).find? ((fun b => isId n ([.add it v] ++ b)) ∘ fun o => [o]) = some (.add it (3 - v)) := by
      refine find_only (mem_opsL.mpr ?_) h4 fun y hy => h5 y (mem_ops0.mpr (mem_opsL.mp hy))
      rcases hv with rfl | rfl <;> simp [Op.ok, hi]
    rw [hf]
    rfl
  rw [e0, e1]
  rfl
theorem one_ok {n : Nat} {o : Op} (h : o.ok n = true) : okA n [o] := ⟨by simp, fun q hq => by rw [List.mem_singleton.mp hq]; exact h⟩
abbrev pEnv (n it : Nat) (x2 x3 x4 : Option (Bool × D)) : BK.Env := [some (false, int n), some (false, int it), x2, x3, x4]
abbrev pb1 : CSs := (.cons (.iff (.notN (.call 11 (.cons (.var 0) (.cons (.tup (.cons (.tup (.cons (.cst (PyData.str ("set" : PySem.Str))) (.cons (.var 1) (.cons (.var 2) .nil)))) .nil)) .nil))))
    (.cons (.ret (.cst (PyData.bool false))) .nil) .nil)
    (.cons (.iff (.call 15 (.cons (.var 0) (.cons (.tup (.cons (.tup (.cons (.cst (PyData.str ("set" : PySem.Str))) (.cons (.var 1) (.cons (.var 2) .nil)))) .nil)) .nil)))
    (.cons (.ret (.cst (PyData.bool false))) .nil) .nil) .nil))
abbrev pb2 : CSs := (.cons (.iff (.cmp .ne (.call 11 (.cons (.var 0) (.cons (.tup (.cons (.tup (.cons (.cst (PyData.str ("add" : PySem.Str))) (.cons (.var 1) (.cons (.var 3) .nil)))) .nil)) .nil))) (.bin .mul (.tup (.cons (.cst (PyData.int 0)) .nil)) (.var 0)))
    (.cons (.ret (.cst (PyData.bool false))) .nil) .nil)
    (.cons (.iff (.cmp .ne (.call 17 (.cons (.var 0) (.cons (.tup (.cons (.tup (.cons (.cst (PyData.str ("add" : PySem.Str))) (.cons (.var 1) (.cons (.var 3) .nil)))) .nil)) .nil))) (.tup (.cons (.tup (.cons (.cst (PyData.str ("add" : PySem.Str))) (.cons (.var 1) (.cons (.bin .sub (.cst (PyData.int 3)) (.var 3)) .nil)))) .nil)))
    (.cons (.ret (.cst (PyData.bool false))) .nil) .nil) .nil))
theorem lit {G : Nat → Fun} {E : BK.Env} {e1 e2 : CE} {k : PySem.Str} {i v : Int} (h1 : ev G true e1 E s = .ok (int i) s) (h2 : ev G true e2 E s = .ok (int v) s) : ev G true (.tup (.cons (.tup (.cons (.cst (.str k)) (.cons e1 (.cons e2 .nil)))) .nil)) E s = .ok (tup [.tuple [.str k, .int i, .int v]]) s :=
  e_tup (es_cons (e_tup (es_cons e_cst (es_cons h1 (es_cons h2 es_nil))) rfl rfl) es_nil) rfl rfl
theorem litF {G : Nat → Fun} {E : BK.Env} {e1 e2 : CE} {k : PySem.Str} {i v : Int} (h1 : ev G true e1 E s = .ok (int i) s) (h2 : ev G true e2 E s = .ok (int v) s) : ev G false (.tup (.cons (.tup (.cons (.cst (.str k)) (.cons e1 (.cons e2 .nil)))) .nil)) E s = .ok (tup [.tuple [.str k, .int i, .int v]]) s :=
  e_tup (es_cons (e_tup (es_cons e_cst (es_cons h1 (es_cons h2 es_nil))) rfl rfl) es_nil) rfl rfl
theorem rep_sd {n : Nat} (hn : okN n) : opMul (tup [.int 0]) (int n) = some (.dat (sd (List.replicate n 0))) := by
  rcases hn with rfl | rfl | rfl <;> rfl
theorem eq_act {n : Nat} {it v : Nat} : opEq (.dat (ad [.add it v])) (.dat (ad [.add it v])) = some true := by
  show (if okD (.tuple [.tuple [.str "add", .int (it : Int), .int (v : Int)]]) && okD (.tuple [.tuple [.str "add", .int (it : Int), .int (v : Int)]]) then some (((("add" : PySem.Str) == "add") && (((it : Int) == it) && (((v : Int) == v) && true))) && true) else none) = _
  rw [beq_self_eq_true, beq_self_eq_true, beq_self_eq_true]
  rfl
theorem r_plain {n it : Nat} (hn : okN n) (hi : it < n) : f_law_plain scr [int n, int it] s = .ok (bl true) s := by
  have hm : n ∈ [1, 2, 3] := by rcases hn with rfl | rfl | rfl <;> decide
  have hir := List.mem_range.mpr hi
  obtain ⟨env1, s1, g1, ⟨w2, rfl⟩, rfl⟩ := for_inv (s := s) (turn := fun x env => do
      let env' ← M.of (bindTg (.v 2) x env)
      exs (callD fs21 scr) 64 pb1 env') (xs := [.int ((0 : Nat) : Int), .int ((1 : Nat) : Int), .int ((2 : Nat) : Int)]) (env := pEnv n it none none none) (fun i env s' => (∃ w2, env = pEnv n it w2 none none) ∧ s' = s) ⟨⟨none, rfl⟩, rfl⟩ (by
      rintro i x env s' hx ⟨⟨w2, rfl⟩, rfl⟩
      have key : ∀ v : Nat, v ∈ [0, 1, 2] → (do
          let env' ← M.of (bindTg (.v 2) (.int (v : Int)) (pEnv n it w2 none none))
          exs (callD fs21 scr) 64 pb1 env') s' = .ok (.nx (pEnv n it (some (false, int v)) none none)) s' := by
        intro v hv
        obtain ⟨f1, f2⟩ := d_set n hm it hir v hv
        have ho : (Op.set it v).ok n = true := by
          simp only [List.mem_cons, List.not_mem_nil, or_false] at hv
          rcases hv with rfl | rfl | rfl <;> simp [Op.ok, hi]
        have hr := r_repeat scr s' hn (one_ok ho)
        have hv2 := r_reversible scr s' hn (one_ok ho)
        rw [firstD_eq, f1] at hr
        rw [f2] at hv2
        exact b_ok (of_ok rfl) (xs_nx (x_iffF (e_notN (e_call (es_cons (e_var rfl) (es_cons (lit s' (e_var rfl) (e_var rfl)) es_nil)) hr) rfl) xs_nil) (xs_nx (x_iffF (e_call (es_cons (e_var rfl) (es_cons (lit s' (e_var rfl) (e_var rfl)) es_nil)) hv2) xs_nil) xs_nil))
      match i, hx with
      | 0, hx => cases hx; exact ⟨_, s', key 0 (by decide), ⟨_, rfl⟩, rfl⟩
      | 1, hx => cases hx; exact ⟨_, s', key 1 (by decide), ⟨_, rfl⟩, rfl⟩
      | 2, hx => cases hx; exact ⟨_, s', key 2 (by decide), ⟨_, rfl⟩, rfl⟩
      | i + 3, hx => cases hx)
  obtain ⟨env2, s2, g2, ⟨w3, rfl⟩, rfl⟩ := for_inv (s := s1) (turn := fun x env => do
      let env' ← M.of (bindTg (.v 3) x env)
      exs (callD fs21 scr) 64 pb2 env') (xs := [.int ((1 : Nat) : Int), .int ((2 : Nat) : Int)]) (env := pEnv n it w2 none none) (fun i env s' => (∃ w3, env = pEnv n it w2 w3 none) ∧ s' = s1) ⟨⟨none, rfl⟩, rfl⟩ (by
      rintro i x env s' hx ⟨⟨w3, rfl⟩, rfl⟩
      have key : ∀ v : Nat, v = 1 ∨ v = 2 → (do
          let env' ← M.of (bindTg (.v 3) (.int (v : Int)) (pEnv n it w2 w3 none))
          exs (callD fs21 scr) 64 pb2 env') s' = .ok (.nx (pEnv n it w2 (some (false, int v)) none)) s' := by
        intro v hv
        obtain ⟨f1, _⟩ := d_add n hm it hir v (by rcases hv with rfl | rfl <;> decide)
        have ho : (Op.add it v).ok n = true := by rcases hv with rfl | rfl <;> simp [Op.ok, hi]
        have hr := r_repeat scr s' hn (one_ok ho)
        have hw := r_way scr s' hn (one_ok ho)
        rw [firstD_eq, f1] at hr
        rw [wb_add hn hi hv] at hw
        refine b_ok (of_ok rfl) (xs_nx (x_iffF (e_cmp (r := false) (e_call (es_cons (e_var rfl) (es_cons (lit s' (e_var rfl) (e_var rfl)) es_nil)) hr) (e_bin (e_tup (es_cons e_cst es_nil) rfl rfl) (e_var rfl) (rep_sd hn)) ?_) xs_nil)
          (xs_nx (x_iffF (e_cmp (r := false) (e_call (es_cons (e_var rfl) (es_cons (lit s' (e_var rfl) (e_var rfl)) es_nil)) hw) (litF s' (v := ((3 - v : Nat) : Int)) (e_var rfl) (e_bin e_cst (e_var rfl) ?_)) ?_) xs_nil) xs_nil))
        · show (opEq (.dat (sd _)) (.dat (sd _))).map (!·) = _
          rw [eq_sd]
          simp
        · show some (int (3 - (v : Int))) = _
          rw [show ((3 - v : Nat) : Int) = 3 - (v : Int) by omega]
        · show (opEq (.dat (ad [.add it (3 - v)])) (.dat (ad [.add it (3 - v)]))).map (!·) = _
          rw [eq_act (n := n)]
          rfl
      match i, hx with
      | 0, hx => cases hx; exact ⟨_, s', key 1 (.inl rfl), ⟨_, rfl⟩, rfl⟩
      | 1, hx => cases hx; exact ⟨_, s', key 2 (.inr rfl), ⟨_, rfl⟩, rfl⟩
      | i + 2, hx => cases hx)
  have hc : ∀ E : BK.Env, E[0]? = some (some (false, int n)) → ev (callD fs21 scr) true (.cmp .gt (.var 0) (.cst (PyData.int 1))) E s2 = .ok (bl (decide ((1 : Int) < n))) s2 := fun E q => e_cmp (e_var q) e_cst rfl
  by_cases h1 : (1 : Int) < n
  · rw [decide_eq_true h1] at hc
    have hm2 : n ∈ [2, 3] := by
      rcases hn with rfl | rfl | rfl
      · exact absurd h1 (by decide)
      · decide
      · decide
    obtain ⟨f1, f2, f3⟩ := d_two n hm2 it hir
    have hj : (it + 1) % n < n := Nat.mod_lt _ (by omega)
    have hne : it ≠ (it + 1) % n := by
      intro z
      by_cases hb : it + 1 < n
      · rw [Nat.mod_eq_of_lt hb] at z
        omega
      · have : it + 1 = n := by omega
        rw [this, Nat.mod_self] at z
        omega
    have o1 : okA n [.add it 1] := one_ok (by simp [Op.ok, hi])
    have o2 : okA n [.set ((it + 1) % n) 2] := one_ok (by simp [Op.ok, hj])
    have o3 : okA n [.cop it ((it + 1) % n)] := one_ok (by simp [Op.ok, hi, hj, hne])
    have q1 := r_exchange scr s2 hn o1 o2
    have q2 := r_repeat scr s2 hn o3
    have q3 := r_reversible scr s2 hn o3
    rw [firstD_eq, f1] at q1
    rw [firstD_eq, f2] at q2
    rw [f3] at q3
    refine r_fn rfl (xs_nx (x_for (i_seq (e_tup (es_cons e_cst (es_cons e_cst (es_cons e_cst es_nil))) rfl rfl) rfl) g1) (xs_nx (x_for (i_seq (e_tup (es_cons e_cst (es_cons e_cst es_nil)) rfl rfl) rfl) g2) (xs_nx (x_iffT (hc _ rfl)
      (xs_nx (x_asg (e_bin (r := int (((it + 1) % n : Nat) : Int)) (e_bin (e_var rfl) e_cst rfl) (e_var rfl) ?_)) (xs_nx (x_iffF (e_notN (e_call (es_cons (e_var rfl) (es_cons (lit s2 (e_var rfl) e_cst) (es_cons (lit s2 (e_var rfl) e_cst) es_nil))) q1) rfl) xs_nil)
        (xs_nx (x_iffF (e_notN (e_call (es_cons (e_var rfl) (es_cons (lit s2 (e_var rfl) (e_var rfl)) es_nil)) q2) rfl) xs_nil) (xs_nx (x_iffF (e_call (es_cons (e_var rfl) (es_cons (lit s2 (e_var rfl) (e_var rfl)) es_nil)) q3) xs_nil) xs_nil))))) (xs_rt (x_ret e_cst)))))
    show (if (0 : Int) < n then some (int (((it : Int) + 1) % (n : Int))) else none) = _
    rw [if_pos (by omega)]
    rfl
  · rw [decide_eq_false h1] at hc
    exact r_fn rfl (xs_nx (x_for (i_seq (e_tup (es_cons e_cst (es_cons e_cst (es_cons e_cst es_nil))) rfl rfl) rfl) g1) (xs_nx (x_for (i_seq (e_tup (es_cons e_cst (es_cons e_cst es_nil)) rfl rfl) rfl) g2) (xs_nx (x_iffF (hc _ rfl) xs_nil) (xs_rt (x_ret e_cst)))))
end K03
set_option Elab.async false
set_option linter.all false
set_option maxRecDepth 100000
set_option maxHeartbeats 4000000
namespace K03
open PySem BK
variable (scr : List Int) (s : Twn)
/-! ### what goes back and forth -/
theorem once_le : ∀ l : List (List Int), (once l).length ≤ l.length
  | [] => Nat.le_refl _
  | x :: l => by
    unfold once
    have := once_le l
    split
    · exact Nat.le_succ_of_le this
    · simp; omega
theorem once_nd : ∀ l : List (List Int), (once l).length = l.length → l.Nodup
  | [], _ => List.nodup_nil
  | x :: l, h => by
    unfold once at h
    have := once_le l
    split at h
    · simp at h
      omega
    · rename_i hx
      refine List.nodup_cons.mpr ⟨hx, once_nd l ?_⟩
      simpa using h
theorem nd_once : ∀ l : List (List Int), l.Nodup → (once l).length = l.length
  | [], _ => rfl
  | x :: l, h => by
    obtain ⟨h1, h2⟩ := List.nodup_cons.mp h
    unfold once
    rw [if_neg h1, List.length_cons, List.length_cons, nd_once l h2]
theorem states_nd {n : Nat} (hn : okN n) : (statesL n).Nodup := by
  rcases hn with rfl | rfl | rfl <;> decide +kernel
theorem inj_iff {n : Nat} {a : List Op} : inj n a = true ↔ ((statesL n).map (appl a)).Nodup := by
  unfold inj
  rw [decide_eq_true_eq]
  constructor
  · intro h
    exact once_nd _ (by rw [h, List.length_map])
  · intro h
    rw [nd_once _ h, List.length_map]
theorem nodup_map {α β : Type} {f : α → β} {l : List α} (hl : l.Nodup) (h : ∀ x ∈ l, ∀ y ∈ l, f x = f y → x = y) : (l.map f).Nodup := by
  induction l with
  | nil => exact List.nodup_nil
  | cons x l ih =>
    obtain ⟨h1, h2⟩ := List.nodup_cons.mp hl
    rw [List.map_cons]
    refine List.nodup_cons.mpr ⟨fun z => ?_, ih h2 fun u hu v hv e => h u (List.mem_cons_of_mem _ hu) v (List.mem_cons_of_mem _ hv) e⟩
    obtain ⟨y, hy, e⟩ := List.mem_map.mp z
    have := h x List.mem_cons_self y (List.mem_cons_of_mem _ hy) e.symm
    exact h1 (this ▸ hy)
theorem isId_iff {n : Nat} {c : List Op} : isId n c = true ↔ ∀ x ∈ statesL n, appl c x = x := by
  unfold isId
  rw [firstD_eq]
  constructor
  · intro h x hx
    cases hf : (statesL n).find? (unl c []) with
    | none =>
      have := find_none hf hx
      unfold unl at this
      exact Classical.not_not.mp (of_decide_eq_false this)
    | some st =>
      rw [hf] at h
      cases h
  · intro h
    have : (statesL n).find? (unl c []) = none := by
      rw [List.find?_eq_none]
      intro x hx
      have e : appl c x = appl [] x := h x hx
      unfold unl
      rw [e]
      simp
    rw [this]
    rfl
/-- a reversible action reaches every state -/
theorem onto {n : Nat} {a : List Op} (ha : ∀ o ∈ a, o.ok n = true) (h : inj n a = true) {y : St} (hy : y ∈ statesL n) : ∃ x ∈ statesL n, appl a x = y := by
  have nd := inj_iff.mp h
  by_cases hm : y ∈ (statesL n).map (appl a)
  · obtain ⟨x, hx, e⟩ := List.mem_map.mp hm
    exact ⟨x, hx, e⟩
  · have := List.Nodup.length_le_of_subset (l₁ := y :: (statesL n).map (appl a)) (l₂ := statesL n) (List.nodup_cons.mpr ⟨hm, nd⟩) (fun z hz => by
      rcases List.mem_cons.mp hz with rfl | hz
      · exact hy
      · obtain ⟨x, hx, rfl⟩ := List.mem_map.mp hz
        exact mem_states.mpr (appl_ok ha (mem_states.mp hx)))
    rw [List.length_cons, List.length_map] at this
    omega
theorem wb_some {n : Nat} {a b : List Op} (h : wb n a = some b) : inj n a = true ∧ isId n (a ++ b) = true ∧ b.length ≤ 2 ∧ ∀ o ∈ b, o.ok n = true := by
  unfold wb at h
  split at h
  · rename_i hi
    have key : ∀ t, t ≤ 2 → (rowsAt n t).find? (fun b => isId n (a ++ b)) = some b → inj n a = true ∧ isId n (a ++ b) = true ∧ b.length ≤ 2 ∧ ∀ o ∈ b, o.ok n = true := by
      intro t ht hf
      have hp : isId n (a ++ b) = true := List.find?_some (p := fun b => isId n (a ++ b)) hf
      obtain ⟨r1, r2⟩ := rows_ok (List.mem_of_find?_eq_some hf)
      exact ⟨hi, hp, by omega, r2⟩
    rw [Option.or_eq_some_iff, Option.or_eq_some_iff] at h
    rcases h with h | ⟨_, h | ⟨_, h⟩⟩
    · exact key 0 (by decide) h
    · exact key 1 (by decide) h
    · exact key 2 (by decide) h
  · cases h
/-- the other way round -/
theorem back_id {n : Nat} {a b : List Op} (ha : ∀ o ∈ a, o.ok n = true) (hb : ∀ o ∈ b, o.ok n = true) (hi : inj n a = true) (h : isId n (a ++ b) = true) : isId n (b ++ a) = true := by
  rw [isId_iff] at h ⊢
  intro y hy
  obtain ⟨x, hx, rfl⟩ := onto ha hi hy
  have := h x hx
  rw [appl_app] at this ⊢
  rw [this]
theorem back_inj {n : Nat} {a b : List Op} (hn : okN n) (h : isId n (b ++ a) = true) : inj n b = true := by
  rw [isId_iff] at h
  refine inj_iff.mpr (nodup_map (states_nd hn) fun x hx y hy e => ?_)
  have h1 := h x hx
  have h2 := h y hy
  rw [appl_app] at h1 h2
  rw [← h1, ← h2, e]
theorem nil_ok {n : Nat} : okA n [] := ⟨by simp, fun o h => by cases h⟩
theorem nil_first {n : Nat} (c : List Op) : (statesL n).find? (unl c c) = none := by
  rw [List.find?_eq_none]
  intro x hx
  unfold unl
  simp
theorem wb_nil {n : Nat} (hn : okN n) : wb n [] = some [] := by
  have h1 : inj n [] = true := by
    refine inj_iff.mpr (nodup_map (states_nd hn) fun x _ y _ e => e)
  have h2 : isId n ([] ++ []) = true := isId_iff.mpr fun x hx => rfl
  unfold wb
  rw [h1, if_pos rfl]
  have : (rowsAt n 0).find? (fun b => isId n ([] ++ b)) = some [] := by
    unfold rowsAt
    rw [List.find?_cons, h2]
  rw [this]
  rfl
theorem len_act (b : List Op) : opP1 .len (.dat (ad b)) = some (int b.length) := by
  show some (int (b.map Op.d).length) = _
  rw [List.length_map]
theorem find_isNon {n : Nat} {c : List Op} (h : isId n c = true) : isNon (firstD n c []) = true := h
/-! ### the law -/
abbrev lEnv (x2 x3 x4 x5 x6 : Option (Bool × D)) : BK.Env := [some (false, .scr), some (false, .town), x2, x3, x4, x5, x6]
abbrev lBody : CSs := (.cons (.asg (.v 3) (.bin .add (.cst (PyData.int 1)) (.call 18 (.cons (.var 0) (.cons (.var 1) (.cons (.cst (PyData.int 3)) .nil))))))
    (.cons (.par [4, 5] (.cons (.call 19 (.cons (.var 0) (.cons (.var 1) (.cons (.var 3) .nil)))) (.cons (.call 19 (.cons (.var 0) (.cons (.var 1) (.cons (.var 3) .nil)))) .nil)))
    (.cons (.iff (.not (.call 20 (.cons (.var 3) (.cons (.var 4) (.cons (.var 5) .nil)))))
    (.cons (.ret (.cst (PyData.bool false))) .nil) .nil)
    (.cons (.asg (.v 6) (.call 17 (.cons (.var 3) (.cons (.var 4) .nil))))
    (.cons (.iff (.notN (.var 6))
    (.cons (.iff (.or (.cons (.not (.call 15 (.cons (.var 3) (.cons (.var 4) .nil)))) (.cons (.notN (.call 13 (.cons (.var 3) (.cons (.var 4) (.cons (.var 6) .nil))))) (.cons (.cmp .gt (.p1 .len (.var 6)) (.cst (PyData.int 2))) .nil))))
    (.cons (.ret (.cst (PyData.bool false))) .nil) .nil)
    (.cons (.iff (.or (.cons (.notN (.call 13 (.cons (.var 3) (.cons (.var 6) (.cons (.var 4) .nil))))) (.cons (.not (.call 15 (.cons (.var 3) (.cons (.var 6) .nil)))) .nil)))
    (.cons (.ret (.cst (PyData.bool false))) .nil) .nil) .nil)) .nil)
    (.cons (.iff (.not (.call 21 (.cons (.var 3) (.cons (.call 18 (.cons (.var 0) (.cons (.var 1) (.cons (.var 3) .nil)))) .nil))))
    (.cons (.ret (.cst (PyData.bool false))) .nil) .nil)
    (.cons (.iff (.cmp .ne (.call 17 (.cons (.var 3) (.cons (.tup .nil) .nil))) (.tup .nil))
    (.cons (.ret (.cst (PyData.bool false))) .nil) .nil)
    (.cons (.iff (.notN (.call 11 (.cons (.var 3) (.cons (.tup .nil) .nil))))
    (.cons (.ret (.cst (PyData.bool false))) .nil) .nil)
    (.cons (.iff (.notN (.call 12 (.cons (.var 3) (.cons (.tup .nil) (.cons (.var 4) .nil)))))
    (.cons (.ret (.cst (PyData.bool false))) .nil) .nil) .nil)))))))))
theorem turn_law (hl : scr.length ≤ 63) (ht : TwOk scr s) {x2 x3 x4 x5 x6 : Option (Bool × D)} {k : PyData} :
    ∃ env' s', (do
      let env' ← M.of (bindTg (.v 2) k (lEnv x2 x3 x4 x5 x6))
      exs (callD fs22 scr) 64 lBody env') s = .ok (.nx env') s' ∧ (∃ y2 y3 y4 y5 y6, env' = lEnv y2 y3 y4 y5 y6) ∧ TwOk scr s' := by
  obtain ⟨m, s1, e1, m3, t1⟩ := draw_nat (m := 3) hl ht (by decide) (by decide)
  have hn : okN (1 + m) := by unfold okN; omega
  obtain ⟨a, s2, ha, t2, e2⟩ := r_action scr s1 hl hn t1
  obtain ⟨b, s3, hb, t3, e3⟩ := r_action scr s2 hl hn t2
  obtain ⟨it, s4, e4, i4, t4⟩ := draw_nat (m := 1 + m) hl t3 (by omega) (by omega)
  have hsh := r_shown scr s3 hn ha hb
  have hwy := r_way scr s3 hn ha
  have hpl := r_plain scr s4 hn i4
  have hwn := r_way scr s4 hn (nil_ok (n := 1 + m))
  rw [wb_nil hn] at hwn
  have hrn := r_repeat scr s4 hn (nil_ok (n := 1 + m))
  rw [firstD_eq, List.nil_append, nil_first] at hrn
  have hxn := r_exchange scr s4 hn (nil_ok (n := 1 + m)) ha
  rw [firstD_eq, List.nil_append, List.append_nil, nil_first] at hxn
  have hI : ex (callD fs22 scr) 64 (.asg (.v 3) (.bin .add (.cst (PyData.int 1)) (.call 18 (.cons (.var 0) (.cons (.var 1) (.cons (.cst (PyData.int 3)) .nil)))))) (lEnv (some (false, .dat k)) x3 x4 x5 x6) s = .ok (.nx (lEnv (some (false, .dat k)) (some (false, int ((1 + m : Nat) : Int))) x4 x5 x6)) s1 := by
    refine x_asg (e_bin e_cst (e_call (es_cons (e_var rfl) (es_cons (e_var rfl) (es_cons e_cst es_nil))) e1) ?_)
    show some (int (1 + (m : Int))) = _
    rw [show ((1 + m : Nat) : Int) = 1 + (m : Int) by omega]
  have hB : ∃ env', exs (callD fs22 scr) 64 (.cons (.iff (.notN (.var 6))
    (.cons (.iff (.or (.cons (.not (.call 15 (.cons (.var 3) (.cons (.var 4) .nil)))) (.cons (.notN (.call 13 (.cons (.var 3) (.cons (.var 4) (.cons (.var 6) .nil))))) (.cons (.cmp .gt (.p1 .len (.var 6)) (.cst (PyData.int 2))) .nil))))
    (.cons (.ret (.cst (PyData.bool false))) .nil) .nil)
    (.cons (.iff (.or (.cons (.notN (.call 13 (.cons (.var 3) (.cons (.var 6) (.cons (.var 4) .nil))))) (.cons (.not (.call 15 (.cons (.var 3) (.cons (.var 6) .nil)))) .nil)))
    (.cons (.ret (.cst (PyData.bool false))) .nil) .nil) .nil)) .nil) .nil) (lEnv (some (false, .dat k)) (some (false, int ((1 + m : Nat) : Int))) (some (false, .dat (ad a))) (some (false, .dat (ad b))) (some (false, .dat (optD (wb (1 + m) a))))) s3 = .ok (.nx env') s3 ∧ env' = lEnv (some (false, .dat k)) (some (false, int ((1 + m : Nat) : Int))) (some (false, .dat (ad a))) (some (false, .dat (ad b))) (some (false, .dat (optD (wb (1 + m) a)))) := by
    refine ⟨_, ?_, rfl⟩
    cases hw : wb (1 + m) a with
    | none => exact xs_nx (x_iffF (e_notN (e_var rfl) rfl) xs_nil) xs_nil
    | some c =>
      obtain ⟨w1, w2, w3, w4⟩ := wb_some hw
      have hc : okA (1 + m) c := ⟨by omega, w4⟩
      have q1 := r_reversible scr s3 hn ha
      rw [w1] at q1
      have q2 := r_back scr s3 hn ha hc
      have q3 := r_back scr s3 hn hc ha
      have q4 := r_reversible scr s3 hn hc
      have hid := back_id ha.2 w4 w1 w2
      rw [back_inj hn hid] at q4
      refine xs_nx (x_iffT (e_notN (e_var rfl) rfl) (xs_nx (x_iffF (e_or (or_f (e_not (e_call (es_cons (e_var rfl) (es_cons (e_var rfl) es_nil)) q1) rfl) (or_f (e_notN (e_call (es_cons (e_var rfl) (es_cons (e_var rfl) (es_cons (e_var rfl) es_nil))) q2) ?_) (or_f (e_cmp (e_p1 (e_var rfl) (len_act c)) e_cst ?_) or_nil)))) xs_nil)
        (xs_nx (x_iffF (e_or (or_f (e_notN (e_call (es_cons (e_var rfl) (es_cons (e_var rfl) (es_cons (e_var rfl) es_nil))) q3) ?_) (or_f (e_not (e_call (es_cons (e_var rfl) (es_cons (e_var rfl) es_nil)) q4) rfl) or_nil))) xs_nil) xs_nil))) xs_nil
      · rw [find_isNon w2]
        rfl
      · show some (decide ((2 : Int) < c.length)) = _
        rw [decide_eq_false (by omega)]
      · rw [find_isNon hid]
        rfl
  obtain ⟨_, hB, rfl⟩ := hB
  have hB2 : ex (callD fs22 scr) 64 (.iff (.notN (.var 6))
    (.cons (.iff (.or (.cons (.not (.call 15 (.cons (.var 3) (.cons (.var 4) .nil)))) (.cons (.notN (.call 13 (.cons (.var 3) (.cons (.var 4) (.cons (.var 6) .nil))))) (.cons (.cmp .gt (.p1 .len (.var 6)) (.cst (PyData.int 2))) .nil))))
    (.cons (.ret (.cst (PyData.bool false))) .nil) .nil)
    (.cons (.iff (.or (.cons (.notN (.call 13 (.cons (.var 3) (.cons (.var 6) (.cons (.var 4) .nil))))) (.cons (.not (.call 15 (.cons (.var 3) (.cons (.var 6) .nil)))) .nil)))
    (.cons (.ret (.cst (PyData.bool false))) .nil) .nil) .nil)) .nil) (lEnv (some (false, .dat k)) (some (false, int ((1 + m : Nat) : Int))) (some (false, .dat (ad a))) (some (false, .dat (ad b))) (some (false, .dat (optD (wb (1 + m) a))))) s3 = .ok (.nx (lEnv (some (false, .dat k)) (some (false, int ((1 + m : Nat) : Int))) (some (false, .dat (ad a))) (some (false, .dat (ad b))) (some (false, .dat (optD (wb (1 + m) a)))))) s3 := by
    have h := hB
    simp only [exs, bind_eq] at h
    unfold M.bnd at h
    split at h
    · rename_i fl s' hfl
      cases fl with
      | nx e => cases h; exact hfl
      | rt d => cases h
    · cases h
    · cases h
  refine ⟨_, s4, b_ok (of_ok rfl) (xs_nx hI (xs_nx (x_par (es_cons (e_call (es_cons (e_var rfl) (es_cons (e_var rfl) (es_cons (e_var rfl) es_nil))) e2) (es_cons (e_call (es_cons (e_var rfl) (es_cons (e_var rfl) (es_cons (e_var rfl) es_nil))) e3) es_nil)) rfl)
    (xs_nx (x_iffF (e_not (e_call (es_cons (e_var rfl) (es_cons (e_var rfl) (es_cons (e_var rfl) es_nil))) hsh) rfl) xs_nil) (xs_nx (x_asg (e_call (es_cons (e_var rfl) (es_cons (e_var rfl) es_nil)) hwy)) (xs_nx hB2
    (xs_nx (x_iffF (e_not (e_call (es_cons (e_var rfl) (es_cons (e_call (es_cons (e_var rfl) (es_cons (e_var rfl) (es_cons (e_var rfl) es_nil))) e4) es_nil)) hpl) rfl) xs_nil)
    (xs_nx (x_iffF (e_cmp (r := false) (e_call (es_cons (e_var rfl) (es_cons (e_tup es_nil rfl rfl) es_nil)) hwn) (e_tup es_nil rfl rfl) rfl) xs_nil)
    (xs_nx (x_iffF (e_notN (e_call (es_cons (e_var rfl) (es_cons (e_tup es_nil rfl rfl) es_nil)) hrn) rfl) xs_nil)
    (xs_nx (x_iffF (e_notN (e_call (es_cons (e_var rfl) (es_cons (e_tup es_nil rfl rfl) (es_cons (e_var rfl) es_nil))) hxn) rfl) xs_nil) xs_nil))))))))), ⟨_, _, _, _, _, rfl⟩, t4⟩
theorem plain : ∀ scr : List Int, scr.length ≤ 63 → ∃ s', exs (callD fs22 scr) 64 K03.c_law.body (lawEnv n_law.length) ⟨0, []⟩ = .ok (.rt (bl true)) s' := by
  intro scr hl
  obtain ⟨env', s', h1, ⟨y2, y3, y4, y5, y6, rfl⟩, _⟩ := for_inv (s := ⟨0, []⟩) (turn := fun x env => do
      let env' ← M.of (bindTg (.v 2) x env)
      exs (callD fs22 scr) 64 lBody env') (xs := rngD 5) (env := lEnv none none none none none) (fun i env s' => (∃ y2 y3 y4 y5 y6, env = lEnv y2 y3 y4 y5 y6) ∧ TwOk scr s') ⟨⟨none, none, none, none, none, rfl⟩, tw_begin scr⟩ (by
      rintro i x env s' _ ⟨⟨y2, y3, y4, y5, y6, rfl⟩, t⟩
      obtain ⟨env', s2, e, q, t2⟩ := turn_law scr s' hl t (x2 := y2) (x3 := y3) (x4 := y4) (x5 := y5) (x6 := y6) (k := x)
      exact ⟨env', s2, e, q, t2⟩)
  exact ⟨s', xs_nx (x_for (i_rng e_cst ⟨by decide, by decide⟩) h1) (xs_rt (x_ret e_cst))⟩
end K03
set_option Elab.async false
set_option linter.all false
set_option maxRecDepth 100000
set_option maxHeartbeats 4000000
namespace K03
open PySem BK L2
abbrev s_law_begun : Stmt := top 26
theorem all_mk {l : PySem.W.OpenLaw} {w : World} {K : PySem.W.Frag} {h : Heap} {mg : Str → Option Value} {fa f_is_between f_check_items f_is_state_of f_is_operation f_is_action_of f_check_action f_applied f_after f_states_of f_all_states f_first_unlike f_repeat_state f_exchange_state f_back_state f_loses_nothing f_is_reversible f_operations_of f_way_back f_law_draw f_law_action f_law_shown f_law_plain f_law_begun f_law : Addr} (X : K.In h) (Gn : h.Ns mainGlobals mg) (hfa : mg "law" = some (.ref fa))
    {od_is_between an_is_between od_check_items an_check_items od_is_state_of an_is_state_of od_is_operation an_is_operation od_is_action_of an_is_action_of od_check_action an_check_action od_applied an_applied od_after an_after od_states_of an_states_of od_all_states an_all_states od_first_unlike an_first_unlike od_repeat_state an_repeat_state od_exchange_state an_exchange_state od_back_state an_back_state od_loses_nothing an_loses_nothing od_is_reversible an_is_reversible od_operations_of an_operations_of od_way_back an_way_back od_law_draw an_law_draw od_law_action an_law_action od_law_shown an_law_shown od_law_plain an_law_plain od_law_begun an_law_begun od_law an_law : Option Addr} {sl_is_between sl_check_items sl_is_state_of sl_is_operation sl_is_action_of sl_check_action sl_applied sl_after sl_states_of sl_all_states sl_first_unlike sl_repeat_state sl_exchange_state sl_back_state sl_loses_nothing sl_is_reversible sl_operations_of sl_way_back sl_law_draw sl_law_action sl_law_shown sl_law_plain sl_law_begun sl_law : Array (Option Value)} {oc_is_between kV_is_between dc_is_between pm_is_between cd_is_between ct_is_between oc_check_items kV_check_items dc_check_items pm_check_items cd_check_items ct_check_items oc_is_state_of kV_is_state_of dc_is_state_of pm_is_state_of cd_is_state_of ct_is_state_of oc_is_operation kV_is_operation dc_is_operation pm_is_operation cd_is_operation ct_is_operation oc_is_action_of kV_is_action_of dc_is_action_of pm_is_action_of cd_is_action_of ct_is_action_of oc_check_action kV_check_action dc_check_action pm_check_action cd_check_action ct_check_action oc_applied kV_applied dc_applied pm_applied cd_applied ct_applied oc_after kV_after dc_after pm_after cd_after ct_after oc_states_of kV_states_of dc_states_of pm_states_of cd_states_of ct_states_of oc_all_states kV_all_states dc_all_states pm_all_states cd_all_states ct_all_states oc_first_unlike kV_first_unlike dc_first_unlike pm_first_unlike cd_first_unlike ct_first_unlike oc_repeat_state kV_repeat_state dc_repeat_state pm_repeat_state cd_repeat_state ct_repeat_state oc_exchange_state kV_exchange_state dc_exchange_state pm_exchange_state cd_exchange_state ct_exchange_state oc_back_state kV_back_state dc_back_state pm_back_state cd_back_state ct_back_state oc_loses_nothing kV_loses_nothing dc_loses_nothing pm_loses_nothing cd_loses_nothing ct_loses_nothing oc_is_reversible kV_is_reversible dc_is_reversible pm_is_reversible cd_is_reversible ct_is_reversible oc_operations_of kV_operations_of dc_operations_of pm_operations_of cd_operations_of ct_operations_of oc_way_back kV_way_back dc_way_back pm_way_back cd_way_back ct_way_back oc_law_draw kV_law_draw dc_law_draw pm_law_draw cd_law_draw ct_law_draw oc_law_action kV_law_action dc_law_action pm_law_action cd_law_action ct_law_action oc_law_shown kV_law_shown dc_law_shown pm_law_shown cd_law_shown ct_law_shown oc_law_plain kV_law_plain dc_law_plain pm_law_plain cd_law_plain ct_law_plain oc_law_begun kV_law_begun dc_law_begun pm_law_begun cd_law_begun ct_law_begun oc_law kV_law dc_law pm_law cd_law ct_law : Value}
    (a_is_between : PySem.W.nsIn K mainGlobals "is_between" = some (some (.ref f_is_between))) (l_is_between : K.lookup f_is_between = some ⟨oc_is_between, od_is_between, .func (PySem.W.fnOf "is_between" "is_between" (defArgs s_is_between) (defBody s_is_between) (defScope s_is_between) .none kV_is_between dc_is_between pm_is_between an_is_between cd_is_between ct_is_between), sl_is_between⟩) (c_is_between : PySem.W.codeIn K cd_is_between "is_between" = true) (k_is_between : PySem.W.keepIn K (.ref f_is_between) = true)
    (a_check_items : PySem.W.nsIn K mainGlobals "check_items" = some (some (.ref f_check_items))) (l_check_items : K.lookup f_check_items = some ⟨oc_check_items, od_check_items, .func (PySem.W.fnOf "check_items" "check_items" (defArgs s_check_items) (defBody s_check_items) (defScope s_check_items) .none kV_check_items dc_check_items pm_check_items an_check_items cd_check_items ct_check_items), sl_check_items⟩) (c_check_items : PySem.W.codeIn K cd_check_items "check_items" = true) (k_check_items : PySem.W.keepIn K (.ref f_check_items) = true)
    (a_is_state_of : PySem.W.nsIn K mainGlobals "is_state_of" = some (some (.ref f_is_state_of))) (l_is_state_of : K.lookup f_is_state_of = some ⟨oc_is_state_of, od_is_state_of, .func (PySem.W.fnOf "is_state_of" "is_state_of" (defArgs s_is_state_of) (defBody s_is_state_of) (defScope s_is_state_of) .none kV_is_state_of dc_is_state_of pm_is_state_of an_is_state_of cd_is_state_of ct_is_state_of), sl_is_state_of⟩) (c_is_state_of : PySem.W.codeIn K cd_is_state_of "is_state_of" = true) (k_is_state_of : PySem.W.keepIn K (.ref f_is_state_of) = true)
    (a_is_operation : PySem.W.nsIn K mainGlobals "is_operation" = some (some (.ref f_is_operation))) (l_is_operation : K.lookup f_is_operation = some ⟨oc_is_operation, od_is_operation, .func (PySem.W.fnOf "is_operation" "is_operation" (defArgs s_is_operation) (defBody s_is_operation) (defScope s_is_operation) .none kV_is_operation dc_is_operation pm_is_operation an_is_operation cd_is_operation ct_is_operation), sl_is_operation⟩) (c_is_operation : PySem.W.codeIn K cd_is_operation "is_operation" = true) (k_is_operation : PySem.W.keepIn K (.ref f_is_operation) = true)
    (a_is_action_of : PySem.W.nsIn K mainGlobals "is_action_of" = some (some (.ref f_is_action_of))) (l_is_action_of : K.lookup f_is_action_of = some ⟨oc_is_action_of, od_is_action_of, .func (PySem.W.fnOf "is_action_of" "is_action_of" (defArgs s_is_action_of) (defBody s_is_action_of) (defScope s_is_action_of) .none kV_is_action_of dc_is_action_of pm_is_action_of an_is_action_of cd_is_action_of ct_is_action_of), sl_is_action_of⟩) (c_is_action_of : PySem.W.codeIn K cd_is_action_of "is_action_of" = true) (k_is_action_of : PySem.W.keepIn K (.ref f_is_action_of) = true)
    (a_check_action : PySem.W.nsIn K mainGlobals "check_action" = some (some (.ref f_check_action))) (l_check_action : K.lookup f_check_action = some ⟨oc_check_action, od_check_action, .func (PySem.W.fnOf "check_action" "check_action" (defArgs s_check_action) (defBody s_check_action) (defScope s_check_action) .none kV_check_action dc_check_action pm_check_action an_check_action cd_check_action ct_check_action), sl_check_action⟩) (c_check_action : PySem.W.codeIn K cd_check_action "check_action" = true) (k_check_action : PySem.W.keepIn K (.ref f_check_action) = true)
    (a_applied : PySem.W.nsIn K mainGlobals "applied" = some (some (.ref f_applied))) (l_applied : K.lookup f_applied = some ⟨oc_applied, od_applied, .func (PySem.W.fnOf "applied" "applied" (defArgs s_applied) (defBody s_applied) (defScope s_applied) .none kV_applied dc_applied pm_applied an_applied cd_applied ct_applied), sl_applied⟩) (c_applied : PySem.W.codeIn K cd_applied "applied" = true) (k_applied : PySem.W.keepIn K (.ref f_applied) = true)
    (a_after : PySem.W.nsIn K mainGlobals "after" = some (some (.ref f_after))) (l_after : K.lookup f_after = some ⟨oc_after, od_after, .func (PySem.W.fnOf "after" "after" (defArgs s_after) (defBody s_after) (defScope s_after) .none kV_after dc_after pm_after an_after cd_after ct_after), sl_after⟩) (c_after : PySem.W.codeIn K cd_after "after" = true) (k_after : PySem.W.keepIn K (.ref f_after) = true)
    (a_states_of : PySem.W.nsIn K mainGlobals "states_of" = some (some (.ref f_states_of))) (l_states_of : K.lookup f_states_of = some ⟨oc_states_of, od_states_of, .func (PySem.W.fnOf "states_of" "states_of" (defArgs s_states_of) (defBody s_states_of) (defScope s_states_of) .none kV_states_of dc_states_of pm_states_of an_states_of cd_states_of ct_states_of), sl_states_of⟩) (c_states_of : PySem.W.codeIn K cd_states_of "states_of" = true) (k_states_of : PySem.W.keepIn K (.ref f_states_of) = true)
    (a_all_states : PySem.W.nsIn K mainGlobals "all_states" = some (some (.ref f_all_states))) (l_all_states : K.lookup f_all_states = some ⟨oc_all_states, od_all_states, .func (PySem.W.fnOf "all_states" "all_states" (defArgs s_all_states) (defBody s_all_states) (defScope s_all_states) .none kV_all_states dc_all_states pm_all_states an_all_states cd_all_states ct_all_states), sl_all_states⟩) (c_all_states : PySem.W.codeIn K cd_all_states "all_states" = true) (k_all_states : PySem.W.keepIn K (.ref f_all_states) = true)
    (a_first_unlike : PySem.W.nsIn K mainGlobals "first_unlike" = some (some (.ref f_first_unlike))) (l_first_unlike : K.lookup f_first_unlike = some ⟨oc_first_unlike, od_first_unlike, .func (PySem.W.fnOf "first_unlike" "first_unlike" (defArgs s_first_unlike) (defBody s_first_unlike) (defScope s_first_unlike) .none kV_first_unlike dc_first_unlike pm_first_unlike an_first_unlike cd_first_unlike ct_first_unlike), sl_first_unlike⟩) (c_first_unlike : PySem.W.codeIn K cd_first_unlike "first_unlike" = true) (k_first_unlike : PySem.W.keepIn K (.ref f_first_unlike) = true)
    (a_repeat_state : PySem.W.nsIn K mainGlobals "repeat_state" = some (some (.ref f_repeat_state))) (l_repeat_state : K.lookup f_repeat_state = some ⟨oc_repeat_state, od_repeat_state, .func (PySem.W.fnOf "repeat_state" "repeat_state" (defArgs s_repeat_state) (defBody s_repeat_state) (defScope s_repeat_state) .none kV_repeat_state dc_repeat_state pm_repeat_state an_repeat_state cd_repeat_state ct_repeat_state), sl_repeat_state⟩) (c_repeat_state : PySem.W.codeIn K cd_repeat_state "repeat_state" = true) (k_repeat_state : PySem.W.keepIn K (.ref f_repeat_state) = true)
    (a_exchange_state : PySem.W.nsIn K mainGlobals "exchange_state" = some (some (.ref f_exchange_state))) (l_exchange_state : K.lookup f_exchange_state = some ⟨oc_exchange_state, od_exchange_state, .func (PySem.W.fnOf "exchange_state" "exchange_state" (defArgs s_exchange_state) (defBody s_exchange_state) (defScope s_exchange_state) .none kV_exchange_state dc_exchange_state pm_exchange_state an_exchange_state cd_exchange_state ct_exchange_state), sl_exchange_state⟩) (c_exchange_state : PySem.W.codeIn K cd_exchange_state "exchange_state" = true) (k_exchange_state : PySem.W.keepIn K (.ref f_exchange_state) = true)
    (a_back_state : PySem.W.nsIn K mainGlobals "back_state" = some (some (.ref f_back_state))) (l_back_state : K.lookup f_back_state = some ⟨oc_back_state, od_back_state, .func (PySem.W.fnOf "back_state" "back_state" (defArgs s_back_state) (defBody s_back_state) (defScope s_back_state) .none kV_back_state dc_back_state pm_back_state an_back_state cd_back_state ct_back_state), sl_back_state⟩) (c_back_state : PySem.W.codeIn K cd_back_state "back_state" = true) (k_back_state : PySem.W.keepIn K (.ref f_back_state) = true)
    (a_loses_nothing : PySem.W.nsIn K mainGlobals "loses_nothing" = some (some (.ref f_loses_nothing))) (l_loses_nothing : K.lookup f_loses_nothing = some ⟨oc_loses_nothing, od_loses_nothing, .func (PySem.W.fnOf "loses_nothing" "loses_nothing" (defArgs s_loses_nothing) (defBody s_loses_nothing) (defScope s_loses_nothing) .none kV_loses_nothing dc_loses_nothing pm_loses_nothing an_loses_nothing cd_loses_nothing ct_loses_nothing), sl_loses_nothing⟩) (c_loses_nothing : PySem.W.codeIn K cd_loses_nothing "loses_nothing" = true) (k_loses_nothing : PySem.W.keepIn K (.ref f_loses_nothing) = true)
    (a_is_reversible : PySem.W.nsIn K mainGlobals "is_reversible" = some (some (.ref f_is_reversible))) (l_is_reversible : K.lookup f_is_reversible = some ⟨oc_is_reversible, od_is_reversible, .func (PySem.W.fnOf "is_reversible" "is_reversible" (defArgs s_is_reversible) (defBody s_is_reversible) (defScope s_is_reversible) .none kV_is_reversible dc_is_reversible pm_is_reversible an_is_reversible cd_is_reversible ct_is_reversible), sl_is_reversible⟩) (c_is_reversible : PySem.W.codeIn K cd_is_reversible "is_reversible" = true) (k_is_reversible : PySem.W.keepIn K (.ref f_is_reversible) = true)
    (a_operations_of : PySem.W.nsIn K mainGlobals "operations_of" = some (some (.ref f_operations_of))) (l_operations_of : K.lookup f_operations_of = some ⟨oc_operations_of, od_operations_of, .func (PySem.W.fnOf "operations_of" "operations_of" (defArgs s_operations_of) (defBody s_operations_of) (defScope s_operations_of) .none kV_operations_of dc_operations_of pm_operations_of an_operations_of cd_operations_of ct_operations_of), sl_operations_of⟩) (c_operations_of : PySem.W.codeIn K cd_operations_of "operations_of" = true) (k_operations_of : PySem.W.keepIn K (.ref f_operations_of) = true)
    (a_way_back : PySem.W.nsIn K mainGlobals "way_back" = some (some (.ref f_way_back))) (l_way_back : K.lookup f_way_back = some ⟨oc_way_back, od_way_back, .func (PySem.W.fnOf "way_back" "way_back" (defArgs s_way_back) (defBody s_way_back) (defScope s_way_back) .none kV_way_back dc_way_back pm_way_back an_way_back cd_way_back ct_way_back), sl_way_back⟩) (c_way_back : PySem.W.codeIn K cd_way_back "way_back" = true) (k_way_back : PySem.W.keepIn K (.ref f_way_back) = true)
    (a_law_draw : PySem.W.nsIn K mainGlobals "_law_draw" = some (some (.ref f_law_draw))) (l_law_draw : K.lookup f_law_draw = some ⟨oc_law_draw, od_law_draw, .func (PySem.W.fnOf "_law_draw" "_law_draw" (defArgs s_law_draw) (defBody s_law_draw) (defScope s_law_draw) .none kV_law_draw dc_law_draw pm_law_draw an_law_draw cd_law_draw ct_law_draw), sl_law_draw⟩) (c_law_draw : PySem.W.codeIn K cd_law_draw "_law_draw" = true) (k_law_draw : PySem.W.keepIn K (.ref f_law_draw) = true)
    (a_law_action : PySem.W.nsIn K mainGlobals "_law_action" = some (some (.ref f_law_action))) (l_law_action : K.lookup f_law_action = some ⟨oc_law_action, od_law_action, .func (PySem.W.fnOf "_law_action" "_law_action" (defArgs s_law_action) (defBody s_law_action) (defScope s_law_action) .none kV_law_action dc_law_action pm_law_action an_law_action cd_law_action ct_law_action), sl_law_action⟩) (c_law_action : PySem.W.codeIn K cd_law_action "_law_action" = true) (k_law_action : PySem.W.keepIn K (.ref f_law_action) = true)
    (a_law_shown : PySem.W.nsIn K mainGlobals "_law_shown" = some (some (.ref f_law_shown))) (l_law_shown : K.lookup f_law_shown = some ⟨oc_law_shown, od_law_shown, .func (PySem.W.fnOf "_law_shown" "_law_shown" (defArgs s_law_shown) (defBody s_law_shown) (defScope s_law_shown) .none kV_law_shown dc_law_shown pm_law_shown an_law_shown cd_law_shown ct_law_shown), sl_law_shown⟩) (c_law_shown : PySem.W.codeIn K cd_law_shown "_law_shown" = true) (k_law_shown : PySem.W.keepIn K (.ref f_law_shown) = true)
    (a_law_plain : PySem.W.nsIn K mainGlobals "_law_plain" = some (some (.ref f_law_plain))) (l_law_plain : K.lookup f_law_plain = some ⟨oc_law_plain, od_law_plain, .func (PySem.W.fnOf "_law_plain" "_law_plain" (defArgs s_law_plain) (defBody s_law_plain) (defScope s_law_plain) .none kV_law_plain dc_law_plain pm_law_plain an_law_plain cd_law_plain ct_law_plain), sl_law_plain⟩) (c_law_plain : PySem.W.codeIn K cd_law_plain "_law_plain" = true) (k_law_plain : PySem.W.keepIn K (.ref f_law_plain) = true)
    (a_law_begun : PySem.W.nsIn K mainGlobals "_law_begun" = some (some (.ref f_law_begun))) (l_law_begun : K.lookup f_law_begun = some ⟨oc_law_begun, od_law_begun, .func (PySem.W.fnOf "_law_begun" "_law_begun" (defArgs s_law_begun) (defBody s_law_begun) (defScope s_law_begun) .none kV_law_begun dc_law_begun pm_law_begun an_law_begun cd_law_begun ct_law_begun), sl_law_begun⟩) (c_law_begun : PySem.W.codeIn K cd_law_begun "_law_begun" = true) (k_law_begun : PySem.W.keepIn K (.ref f_law_begun) = true)
    (a_law : PySem.W.nsIn K mainGlobals "law" = some (some (.ref f_law))) (l_law : K.lookup f_law = some ⟨oc_law, od_law, .func (PySem.W.fnOf "law" "law" (defArgs s_law) (defBody s_law) (defScope s_law) .none kV_law dc_law pm_law an_law cd_law ct_law), sl_law⟩) (c_law : PySem.W.codeIn K cd_law "law" = true) (k_law : PySem.W.keepIn K (.ref f_law) = true)
    (z_len : PySem.W.nsIn K mainGlobals "len" = some none)
    (z_all : PySem.W.nsIn K mainGlobals "all" = some none)
    (z_tuple : PySem.W.nsIn K mainGlobals "tuple" = some none)
    (z_list : PySem.W.nsIn K mainGlobals "list" = some none)
    (z_sorted : PySem.W.nsIn K mainGlobals "sorted" = some none)
    (z_min : PySem.W.nsIn K mainGlobals "min" = some none)
    (z_str : PySem.W.nsIn K mainGlobals "str" = some none)
    (z_int : PySem.W.nsIn K mainGlobals "int" = some none)
    (z_range : PySem.W.nsIn K mainGlobals "range" = some none)
    (z_zip : PySem.W.nsIn K mainGlobals "zip" = some none)
    (z_enumerate : PySem.W.nsIn K mainGlobals "enumerate" = some none)
    (z_isinstance : PySem.W.nsIn K mainGlobals "isinstance" = some none)
    (z_bool : PySem.W.nsIn K mainGlobals "bool" = some none)
    (z_set : PySem.W.nsIn K mainGlobals "set" = some none)
    (z_dict : PySem.W.nsIn K mainGlobals "dict" = some none)
    (plain : ∀ scr : List Int, scr.length ≤ 63 → ∃ s', exs (callD fs22 scr) 64 K03.c_law.body (lawEnv n_law.length) ⟨0, []⟩ = .ok (.rt (bl true)) s') :
    LamX.LawAtS l w K CX0 23 63 "_law_script" mg fa h := by
  have e := hfa.symm.trans (PySem.W.mg_of X Gn a_law)
  cases e
  refine ⟨PySem.W.fnOf "law" "law" (defArgs s_law) (defBody s_law) (defScope s_law) .none kV_law dc_law pm_law an_law cd_law ct_law, [], spL K, fun p hp => (by cases hp), fun p hp => (by cases hp), fun p hp => (by cases hp), fun s v => .of_eq rfl, fun H a ns hl _ _ hs => ⟨a, ns, rfl, hs, hl, fun _ => rfl⟩, fun base _ _ _ => ?_⟩
  have F_is_between := fun_mk (st := s_is_between) l_is_between c_is_between k_is_between
  have b_is_between := F_is_between.binds (ps := ["value", "low", "high"]) fun _ _ _ _ _ _ us hl => match us, hl with | [_, _, _], _ => rfl
  have F_check_items := fun_mk (st := s_check_items) l_check_items c_check_items k_check_items
  have b_check_items := F_check_items.binds (ps := ["items"]) fun _ _ _ _ _ _ us hl => match us, hl with | [_], _ => rfl
  have F_is_state_of := fun_mk (st := s_is_state_of) l_is_state_of c_is_state_of k_is_state_of
  have b_is_state_of := F_is_state_of.binds (ps := ["items", "value"]) fun _ _ _ _ _ _ us hl => match us, hl with | [_, _], _ => rfl
  have F_is_operation := fun_mk (st := s_is_operation) l_is_operation c_is_operation k_is_operation
  have b_is_operation := F_is_operation.binds (ps := ["items", "value"]) fun _ _ _ _ _ _ us hl => match us, hl with | [_, _], _ => rfl
  have F_is_action_of := fun_mk (st := s_is_action_of) l_is_action_of c_is_action_of k_is_action_of
  have b_is_action_of := F_is_action_of.binds (ps := ["items", "value"]) fun _ _ _ _ _ _ us hl => match us, hl with | [_, _], _ => rfl
  have F_check_action := fun_mk (st := s_check_action) l_check_action c_check_action k_check_action
  have b_check_action := F_check_action.binds (ps := ["items", "action"]) fun _ _ _ _ _ _ us hl => match us, hl with | [_, _], _ => rfl
  have F_applied := fun_mk (st := s_applied) l_applied c_applied k_applied
  have b_applied := F_applied.binds (ps := ["action", "state"]) fun _ _ _ _ _ _ us hl => match us, hl with | [_, _], _ => rfl
  have F_after := fun_mk (st := s_after) l_after c_after k_after
  have b_after := F_after.binds (ps := ["items", "action", "state"]) fun _ _ _ _ _ _ us hl => match us, hl with | [_, _, _], _ => rfl
  have F_states_of := fun_mk (st := s_states_of) l_states_of c_states_of k_states_of
  have b_states_of := F_states_of.binds (ps := ["items"]) fun _ _ _ _ _ _ us hl => match us, hl with | [_], _ => rfl
  have F_all_states := fun_mk (st := s_all_states) l_all_states c_all_states k_all_states
  have b_all_states := F_all_states.binds (ps := ["items"]) fun _ _ _ _ _ _ us hl => match us, hl with | [_], _ => rfl
  have F_first_unlike := fun_mk (st := s_first_unlike) l_first_unlike c_first_unlike k_first_unlike
  have b_first_unlike := F_first_unlike.binds (ps := ["items", "one", "other"]) fun _ _ _ _ _ _ us hl => match us, hl with | [_, _, _], _ => rfl
  have F_repeat_state := fun_mk (st := s_repeat_state) l_repeat_state c_repeat_state k_repeat_state
  have b_repeat_state := F_repeat_state.binds (ps := ["items", "action"]) fun _ _ _ _ _ _ us hl => match us, hl with | [_, _], _ => rfl
  have F_exchange_state := fun_mk (st := s_exchange_state) l_exchange_state c_exchange_state k_exchange_state
  have b_exchange_state := F_exchange_state.binds (ps := ["items", "one", "other"]) fun _ _ _ _ _ _ us hl => match us, hl with | [_, _, _], _ => rfl
  have F_back_state := fun_mk (st := s_back_state) l_back_state c_back_state k_back_state
  have b_back_state := F_back_state.binds (ps := ["items", "action", "back"]) fun _ _ _ _ _ _ us hl => match us, hl with | [_, _, _], _ => rfl
  have F_loses_nothing := fun_mk (st := s_loses_nothing) l_loses_nothing c_loses_nothing k_loses_nothing
  have b_loses_nothing := F_loses_nothing.binds (ps := ["items", "action"]) fun _ _ _ _ _ _ us hl => match us, hl with | [_, _], _ => rfl
  have F_is_reversible := fun_mk (st := s_is_reversible) l_is_reversible c_is_reversible k_is_reversible
  have b_is_reversible := F_is_reversible.binds (ps := ["items", "action"]) fun _ _ _ _ _ _ us hl => match us, hl with | [_, _], _ => rfl
  have F_operations_of := fun_mk (st := s_operations_of) l_operations_of c_operations_of k_operations_of
  have b_operations_of := F_operations_of.binds (ps := ["items"]) fun _ _ _ _ _ _ us hl => match us, hl with | [_], _ => rfl
  have F_way_back := fun_mk (st := s_way_back) l_way_back c_way_back k_way_back
  have b_way_back := F_way_back.binds (ps := ["items", "action"]) fun _ _ _ _ _ _ us hl => match us, hl with | [_, _], _ => rfl
  have F_law_draw := fun_mk (st := s_law_draw) l_law_draw c_law_draw k_law_draw
  have b_law_draw := F_law_draw.binds (ps := ["_law_script", "_law_town", "_law_many"]) fun _ _ _ _ _ _ us hl => match us, hl with | [_, _, _], _ => rfl
  have F_law_action := fun_mk (st := s_law_action) l_law_action c_law_action k_law_action
  have b_law_action := F_law_action.binds (ps := ["_law_script", "_law_town", "_law_items"]) fun _ _ _ _ _ _ us hl => match us, hl with | [_, _, _], _ => rfl
  have F_law_shown := fun_mk (st := s_law_shown) l_law_shown c_law_shown k_law_shown
  have b_law_shown := F_law_shown.binds (ps := ["_law_items", "_law_one", "_law_other"]) fun _ _ _ _ _ _ us hl => match us, hl with | [_, _, _], _ => rfl
  have F_law_plain := fun_mk (st := s_law_plain) l_law_plain c_law_plain k_law_plain
  have b_law_plain := F_law_plain.binds (ps := ["_law_items", "_law_item"]) fun _ _ _ _ _ _ us hl => match us, hl with | [_, _], _ => rfl
  have F_law_begun := fun_mk (st := s_law_begun) l_law_begun c_law_begun k_law_begun
  have b_law_begun := F_law_begun.binds (ps := []) fun _ _ _ _ _ _ us hl => match us, hl with | [], _ => rfl
  have F_law := fun_mk (st := s_law) l_law c_law k_law
  let τ0 : Tn := ⟨0, 0, [], 0, fun i => ([f_is_between, f_check_items, f_is_state_of, f_is_operation, f_is_action_of, f_check_action, f_applied, f_after, f_states_of, f_all_states, f_first_unlike, f_repeat_state, f_exchange_state, f_back_state, f_loses_nothing, f_is_reversible, f_operations_of, f_way_back, f_law_draw, f_law_action, f_law_shown, f_law_plain] : List Addr).getD i 0, fun _ => .none, [], false, K⟩
  have G : Gx l.prog w K mg base CX0 τ0 CN := ⟨fun x hx => ?_, fun x d h => by cases h⟩
  · have T0 : Tab l.prog w K mg base CX0 0 τ0 nms0 fs0 := Tab.nil
    have T1 : Tab l.prog w K mg base CX0 1 τ0 nms1 fs1 := Tab.snoc (T0.up (Nat.le_succ _)) rfl ⟨⟨_, _, fn_ok F_is_between sc_is_between G T0 rfl rfl K03.k_is_between, b_is_between⟩, PySem.W.mg_of X Gn a_is_between, k_is_between⟩
    have T2 : Tab l.prog w K mg base CX0 2 τ0 nms2 fs2 := Tab.snoc (T1.up (Nat.le_succ _)) rfl ⟨⟨_, _, fn_ok F_check_items sc_check_items G T1 rfl rfl K03.k_check_items, b_check_items⟩, PySem.W.mg_of X Gn a_check_items, k_check_items⟩
    have T3 : Tab l.prog w K mg base CX0 3 τ0 nms3 fs3 := Tab.snoc (T2.up (Nat.le_succ _)) rfl ⟨⟨_, _, fn_ok F_is_state_of sc_is_state_of G T2 rfl rfl K03.k_is_state_of, b_is_state_of⟩, PySem.W.mg_of X Gn a_is_state_of, k_is_state_of⟩
    have T4 : Tab l.prog w K mg base CX0 4 τ0 nms4 fs4 := Tab.snoc (T3.up (Nat.le_succ _)) rfl ⟨⟨_, _, fn_ok F_is_operation sc_is_operation G T3 rfl rfl K03.k_is_operation, b_is_operation⟩, PySem.W.mg_of X Gn a_is_operation, k_is_operation⟩
    have T5 : Tab l.prog w K mg base CX0 5 τ0 nms5 fs5 := Tab.snoc (T4.up (Nat.le_succ _)) rfl ⟨⟨_, _, fn_ok F_is_action_of sc_is_action_of G T4 rfl rfl K03.k_is_action_of, b_is_action_of⟩, PySem.W.mg_of X Gn a_is_action_of, k_is_action_of⟩
    have T6 : Tab l.prog w K mg base CX0 6 τ0 nms6 fs6 := Tab.snoc (T5.up (Nat.le_succ _)) rfl ⟨⟨_, _, fn_ok F_check_action sc_check_action G T5 rfl rfl K03.k_check_action, b_check_action⟩, PySem.W.mg_of X Gn a_check_action, k_check_action⟩
    have T7 : Tab l.prog w K mg base CX0 7 τ0 nms7 fs7 := Tab.snoc (T6.up (Nat.le_succ _)) rfl ⟨⟨_, _, fn_ok F_applied sc_applied G T6 rfl rfl K03.k_applied, b_applied⟩, PySem.W.mg_of X Gn a_applied, k_applied⟩
    have T8 : Tab l.prog w K mg base CX0 8 τ0 nms8 fs8 := Tab.snoc (T7.up (Nat.le_succ _)) rfl ⟨⟨_, _, fn_ok F_after sc_after G T7 rfl rfl K03.k_after, b_after⟩, PySem.W.mg_of X Gn a_after, k_after⟩
    have T9 : Tab l.prog w K mg base CX0 9 τ0 nms9 fs9 := Tab.snoc (T8.up (Nat.le_succ _)) rfl ⟨⟨_, _, fn_ok F_states_of sc_states_of G T8 rfl rfl K03.k_states_of, b_states_of⟩, PySem.W.mg_of X Gn a_states_of, k_states_of⟩
    have T10 : Tab l.prog w K mg base CX0 10 τ0 nms10 fs10 := Tab.snoc (T9.up (Nat.le_succ _)) rfl ⟨⟨_, _, fn_ok F_all_states sc_all_states G T9 rfl rfl K03.k_all_states, b_all_states⟩, PySem.W.mg_of X Gn a_all_states, k_all_states⟩
    have T11 : Tab l.prog w K mg base CX0 11 τ0 nms11 fs11 := Tab.snoc (T10.up (Nat.le_succ _)) rfl ⟨⟨_, _, fn_ok F_first_unlike sc_first_unlike G T10 rfl rfl K03.k_first_unlike, b_first_unlike⟩, PySem.W.mg_of X Gn a_first_unlike, k_first_unlike⟩
    have T12 : Tab l.prog w K mg base CX0 12 τ0 nms12 fs12 := Tab.snoc (T11.up (Nat.le_succ _)) rfl ⟨⟨_, _, fn_ok F_repeat_state sc_repeat_state G T11 rfl rfl K03.k_repeat_state, b_repeat_state⟩, PySem.W.mg_of X Gn a_repeat_state, k_repeat_state⟩
    have T13 : Tab l.prog w K mg base CX0 13 τ0 nms13 fs13 := Tab.snoc (T12.up (Nat.le_succ _)) rfl ⟨⟨_, _, fn_ok F_exchange_state sc_exchange_state G T12 rfl rfl K03.k_exchange_state, b_exchange_state⟩, PySem.W.mg_of X Gn a_exchange_state, k_exchange_state⟩
    have T14 : Tab l.prog w K mg base CX0 14 τ0 nms14 fs14 := Tab.snoc (T13.up (Nat.le_succ _)) rfl ⟨⟨_, _, fn_ok F_back_state sc_back_state G T13 rfl rfl K03.k_back_state, b_back_state⟩, PySem.W.mg_of X Gn a_back_state, k_back_state⟩
    have T15 : Tab l.prog w K mg base CX0 15 τ0 nms15 fs15 := Tab.snoc (T14.up (Nat.le_succ _)) rfl ⟨⟨_, _, fn_ok F_loses_nothing sc_loses_nothing G T14 rfl rfl K03.k_loses_nothing, b_loses_nothing⟩, PySem.W.mg_of X Gn a_loses_nothing, k_loses_nothing⟩
    have T16 : Tab l.prog w K mg base CX0 16 τ0 nms16 fs16 := Tab.snoc (T15.up (Nat.le_succ _)) rfl ⟨⟨_, _, fn_ok F_is_reversible sc_is_reversible G T15 rfl rfl K03.k_is_reversible, b_is_reversible⟩, PySem.W.mg_of X Gn a_is_reversible, k_is_reversible⟩
    have T17 : Tab l.prog w K mg base CX0 17 τ0 nms17 fs17 := Tab.snoc (T16.up (Nat.le_succ _)) rfl ⟨⟨_, _, fn_ok F_operations_of sc_operations_of G T16 rfl rfl K03.k_operations_of, b_operations_of⟩, PySem.W.mg_of X Gn a_operations_of, k_operations_of⟩
    have T18 : Tab l.prog w K mg base CX0 18 τ0 nms18 fs18 := Tab.snoc (T17.up (Nat.le_succ _)) rfl ⟨⟨_, _, fn_ok F_way_back sc_way_back G T17 rfl rfl K03.k_way_back, b_way_back⟩, PySem.W.mg_of X Gn a_way_back, k_way_back⟩
    have T19 : Tab l.prog w K mg base CX0 19 τ0 nms19 fs19 := Tab.snoc (T18.up (Nat.le_succ _)) rfl ⟨⟨_, _, (ok_draw F_law_draw (PySem.W.mg_none_of X Gn z_len)).mono (by omega), b_law_draw⟩, PySem.W.mg_of X Gn a_law_draw, k_law_draw⟩
    have T20 : Tab l.prog w K mg base CX0 20 τ0 nms20 fs20 := Tab.snoc (T19.up (Nat.le_succ _)) rfl ⟨⟨_, _, fn_ok F_law_action sc_law_action G T19 rfl rfl K03.k_law_action, b_law_action⟩, PySem.W.mg_of X Gn a_law_action, k_law_action⟩
    have T21 : Tab l.prog w K mg base CX0 21 τ0 nms21 fs21 := Tab.snoc (T20.up (Nat.le_succ _)) rfl ⟨⟨_, _, fn_ok F_law_shown sc_law_shown G T20 rfl rfl K03.k_law_shown, b_law_shown⟩, PySem.W.mg_of X Gn a_law_shown, k_law_shown⟩
    have T22 : Tab l.prog w K mg base CX0 22 τ0 nms22 fs22 := Tab.snoc (T21.up (Nat.le_succ _)) rfl ⟨⟨_, _, fn_ok F_law_plain sc_law_plain G T21 rfl rfl K03.k_law_plain, b_law_plain⟩, PySem.W.mg_of X Gn a_law_plain, k_law_plain⟩
    exact law_ok F_law sc_law G T22 (by omega) (begun_ok F_law_begun rfl ⟨rfl, rfl, rfl, by decide +kernel, rfl, by decide +kernel, by decide +kernel⟩) b_law_begun (PySem.W.mg_of X Gn a_law_begun) k_law_begun rfl rfl rfl rfl rfl rfl K03.k_law plain
  · simp only [biNames, List.mem_cons, List.not_mem_nil, or_false] at hx
    rcases hx with rfl | rfl | rfl | rfl | rfl | rfl | rfl | rfl | rfl | rfl | rfl | rfl | rfl | rfl | rfl
    · exact PySem.W.mg_none_of X Gn z_len
    · exact PySem.W.mg_none_of X Gn z_all
    · exact PySem.W.mg_none_of X Gn z_tuple
    · exact PySem.W.mg_none_of X Gn z_list
    · exact PySem.W.mg_none_of X Gn z_sorted
    · exact PySem.W.mg_none_of X Gn z_min
    · exact PySem.W.mg_none_of X Gn z_str
    · exact PySem.W.mg_none_of X Gn z_int
    · exact PySem.W.mg_none_of X Gn z_range
    · exact PySem.W.mg_none_of X Gn z_zip
    · exact PySem.W.mg_none_of X Gn z_enumerate
    · exact PySem.W.mg_none_of X Gn z_isinstance
    · exact PySem.W.mg_none_of X Gn z_bool
    · exact PySem.W.mg_none_of X Gn z_set
    · exact PySem.W.mg_none_of X Gn z_dict
end K03

open PySem PySem.W PyProof.Rows in
set_option maxRecDepth 100000 in
set_option maxHeartbeats 0 in
theorem PySem.Challenge.cw_backsteps_k03_whole_actions_holds : PySem.Challenge.rw_backsteps_k03_whole_actions.Holds := by
  w_on; o_law; k_head; (case hw => w_witness2)
  k_fill
  refine LamX.walk_ofTs (l := PySem.Challenge.rw_backsteps_k03_whole_actions) (n := 63) (k := 23) (x := "_law_script") (CX := fun w => L2.CX0) rfl (by decide) rfl ⟨rfl, by decide, by decide⟩ (fun w h Y => PySem.W.kIn_of Y) ?F (fun _ _ _ _ _ h => h)
  case F =>
    intro w mg fa h _ KX Gn hmg
    refine' K03.all_mk KX Gn hmg ?a_is_between ?l_is_between ?c_is_between ?k_is_between ?a_check_items ?l_check_items ?c_check_items ?k_check_items ?a_is_state_of ?l_is_state_of ?c_is_state_of ?k_is_state_of ?a_is_operation ?l_is_operation ?c_is_operation ?k_is_operation ?a_is_action_of ?l_is_action_of ?c_is_action_of ?k_is_action_of ?a_check_action ?l_check_action ?c_check_action ?k_check_action ?a_applied ?l_applied ?c_applied ?k_applied ?a_after ?l_after ?c_after ?k_after ?a_states_of ?l_states_of ?c_states_of ?k_states_of ?a_all_states ?l_all_states ?c_all_states ?k_all_states ?a_first_unlike ?l_first_unlike ?c_first_unlike ?k_first_unlike ?a_repeat_state ?l_repeat_state ?c_repeat_state ?k_repeat_state ?a_exchange_state ?l_exchange_state ?c_exchange_state ?k_exchange_state ?a_back_state ?l_back_state ?c_back_state ?k_back_state ?a_loses_nothing ?l_loses_nothing ?c_loses_nothing ?k_loses_nothing ?a_is_reversible ?l_is_reversible ?c_is_reversible ?k_is_reversible ?a_operations_of ?l_operations_of ?c_operations_of ?k_operations_of ?a_way_back ?l_way_back ?c_way_back ?k_way_back ?a_law_draw ?l_law_draw ?c_law_draw ?k_law_draw ?a_law_action ?l_law_action ?c_law_action ?k_law_action ?a_law_shown ?l_law_shown ?c_law_shown ?k_law_shown ?a_law_plain ?l_law_plain ?c_law_plain ?k_law_plain ?a_law_begun ?l_law_begun ?c_law_begun ?k_law_begun ?a_law ?l_law ?c_law ?k_law ?z_len ?z_all ?z_tuple ?z_list ?z_sorted ?z_min ?z_str ?z_int ?z_range ?z_zip ?z_enumerate ?z_isinstance ?z_bool ?z_set ?z_dict K03.plain
    (case a_is_between => k_is)
    (case l_is_between => k_is)
    (case c_is_between => k_is)
    (case k_is_between => k_is)
    (case a_check_items => k_is)
    (case l_check_items => k_is)
    (case c_check_items => k_is)
    (case k_check_items => k_is)
    (case a_is_state_of => k_is)
    (case l_is_state_of => k_is)
    (case c_is_state_of => k_is)
    (case k_is_state_of => k_is)
    (case a_is_operation => k_is)
    (case l_is_operation => k_is)
    (case c_is_operation => k_is)
    (case k_is_operation => k_is)
    (case a_is_action_of => k_is)
    (case l_is_action_of => k_is)
    (case c_is_action_of => k_is)
    (case k_is_action_of => k_is)
    (case a_check_action => k_is)
    (case l_check_action => k_is)
    (case c_check_action => k_is)
    (case k_check_action => k_is)
    (case a_applied => k_is)
    (case l_applied => k_is)
    (case c_applied => k_is)
    (case k_applied => k_is)
    (case a_after => k_is)
    (case l_after => k_is)
    (case c_after => k_is)
    (case k_after => k_is)
    (case a_states_of => k_is)
    (case l_states_of => k_is)
    (case c_states_of => k_is)
    (case k_states_of => k_is)
    (case a_all_states => k_is)
    (case l_all_states => k_is)
    (case c_all_states => k_is)
    (case k_all_states => k_is)
    (case a_first_unlike => k_is)
    (case l_first_unlike => k_is)
    (case c_first_unlike => k_is)
    (case k_first_unlike => k_is)
    (case a_repeat_state => k_is)
    (case l_repeat_state => k_is)
    (case c_repeat_state => k_is)
    (case k_repeat_state => k_is)
    (case a_exchange_state => k_is)
    (case l_exchange_state => k_is)
    (case c_exchange_state => k_is)
    (case k_exchange_state => k_is)
    (case a_back_state => k_is)
    (case l_back_state => k_is)
    (case c_back_state => k_is)
    (case k_back_state => k_is)
    (case a_loses_nothing => k_is)
    (case l_loses_nothing => k_is)
    (case c_loses_nothing => k_is)
    (case k_loses_nothing => k_is)
    (case a_is_reversible => k_is)
    (case l_is_reversible => k_is)
    (case c_is_reversible => k_is)
    (case k_is_reversible => k_is)
    (case a_operations_of => k_is)
    (case l_operations_of => k_is)
    (case c_operations_of => k_is)
    (case k_operations_of => k_is)
    (case a_way_back => k_is)
    (case l_way_back => k_is)
    (case c_way_back => k_is)
    (case k_way_back => k_is)
    (case a_law_draw => k_is)
    (case l_law_draw => k_is)
    (case c_law_draw => k_is)
    (case k_law_draw => k_is)
    (case a_law_action => k_is)
    (case l_law_action => k_is)
    (case c_law_action => k_is)
    (case k_law_action => k_is)
    (case a_law_shown => k_is)
    (case l_law_shown => k_is)
    (case c_law_shown => k_is)
    (case k_law_shown => k_is)
    (case a_law_plain => k_is)
    (case l_law_plain => k_is)
    (case c_law_plain => k_is)
    (case k_law_plain => k_is)
    (case a_law_begun => k_is)
    (case l_law_begun => k_is)
    (case c_law_begun => k_is)
    (case k_law_begun => k_is)
    (case a_law => k_is)
    (case l_law => k_is)
    (case c_law => k_is)
    (case k_law => k_is)
    (case z_len => k_is)
    (case z_all => k_is)
    (case z_tuple => k_is)
    (case z_list => k_is)
    (case z_sorted => k_is)
    (case z_min => k_is)
    (case z_str => k_is)
    (case z_int => k_is)
    (case z_range => k_is)
    (case z_zip => k_is)
    (case z_enumerate => k_is)
    (case z_isinstance => k_is)
    (case z_bool => k_is)
    (case z_set => k_is)
    (case z_dict => k_is)
