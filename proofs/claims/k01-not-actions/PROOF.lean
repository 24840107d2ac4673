import PyProof.Rows.All
import Wide.All
import OpenK.AllK
import Wide.FinOn
import HandS.ForMost
import HandS.ForExc
import HandS.Lambda
import HandS.EndTab
import HandS.TupAny
import HandS.TupMul
import HandS.Deep
import HandS.Conv
import HandS.Zip
import HandS.IsInst
import HandS.TupSets
import HandS.Small
import HandS.Style
import HandS.NoneIn
import HandS.CallLocal
import HandS.IterVal
import HandS.Wide
import HandS.RaiseMore
import HandS.WideBits
import KE.KeyNested
import KE.KDictKeyed
import KE.KDictLaw
import KE.KDictWalk
import KE.GoesDict
import KE.SortData
import KE.DataCmp
import KE.DataMinMax
import KE.DataFind
import KE.KDictPairs
import HandS.ExcIs
import KE.KDictLaws
import PyProof.DictUpdate
import KE.GoesEnum
import PyProof.WalksMore
import KE.KDictSum
import KE.GoesMore
import KE.KDictDisplayH
import KE.KIndexOf
import PySem.Challenge.RW_backsteps_k01_not_actions
set_option Elab.async false
set_option linter.all false
/-! A small language of slots, and what it means: the first half of a layer of our own. -/
namespace BK
open PySem L2

/-! ### values -/
inductive D where
  | dat (d : PyData)
  | dK (kvs : List (Key × PyData))
  | dT (kvs : List (NestedKey × PyData))
  | fn (i : Nat)
  | town
  | scr

/-- what the draws have left: how many there were, and what is left of the great cells -/
structure Twn where
  cnt : Int
  rests : List (Int × Int)

inductive Res (α : Type) where
  | ok (a : α) (s : Twn)
  | exc (c : Nat) (s : Twn)
  | stuck

def M (α : Type) := Twn → Res α
def M.ret {α : Type} (a : α) : M α := fun s => .ok a s
def M.bnd {α β : Type} (x : M α) (f : α → M β) : M β := fun s => match x s with
  | .ok a s' => f a s'
  | .exc c s' => .exc c s'
  | .stuck => .stuck
instance : Monad M where
  pure := M.ret
  bind := M.bnd
def M.non {α : Type} : M α := fun _ => .stuck
def M.of {α : Type} : Option α → M α
  | some a => M.ret a
  | none => M.non
/-- nothing may be raised -/
def M.nox {α : Type} (x : M α) : M α := fun s => match x s with
  | .ok a s' => .ok a s'
  | _ => .stuck
def M.rai {α : Type} (c : Nat) : M α := fun s => .exc c s

abbrev Fun := List D → M D
abbrev Env := List (Option (Bool × D))

/-! ### the text -/
inductive BO where | add | sub | mul | mod | fdiv
  deriving DecidableEq
inductive CO where | eq | ne | lt | le | gt | ge | isin | notin
  deriving DecidableEq
inductive P1 where | len | all | tuple | list | sorted | min | str | int
  deriving DecidableEq
inductive Ty where | int | bool | tuple | str
  deriving DecidableEq
inductive Mt where | index | split | join | count
  deriving DecidableEq

inductive Tg where
  | v (i : Nat)
  | t (l : List Tg)

mutual
inductive CE where
  | cst (d : PyData)
  | gcon (x : Str) (d : PyData)
  | fnc (i : Nat)
  | var (i : Nat)
  | tup (es : CEs)
  | lst (es : CEs)
  | bin (o : BO) (a b : CE)
  | neg (a : CE)
  | cmp (o : CO) (a b : CE)
  | isN (a : CE)
  | notN (a : CE)
  | chn (a b c : CE)
  | and (es : CEs)
  | or (es : CEs)
  | not (a : CE)
  | ite (c a b : CE)
  | idx (a b : CE)
  | slL (a lo : CE)
  | slH (a hi : CE)
  | sl2 (a lo hi : CE)
  | slR (a : CE)
  | lc (own : List Nat) (tg : Tg) (it : CI) (elt : CE)
  | lcIf (own : List Nat) (tg : Tg) (it : CI) (cond elt : CE)
  | call (f : Nat) (es : CEs)
  | callv (i : Nat) (fs : List Nat) (es : CEs)
  | p1 (p : P1) (a : CE)
  | lrng (a : CE)
  | trng (a : CE)
  | min2 (a b : CE)
  | isi (a : CE) (t : Ty)
  | meth (m : Mt) (a b : CE)
  | dget (d k x : CE)
  | ssort (a : CE)
  | lset (a : CE)
  | dke (a : CE)
  | lenum (a : CE)
  | dnew
  | done (k v : CE)
  | res (e : CE)
inductive CEs where
  | nil
  | cons (e : CE) (r : CEs)
inductive CI where
  | seq (e : CE)
  | rng (e : CE)
  | enum (e : CE)
  | zip (a b : CE)
  | keys (e : CE)
end

mutual
inductive CS where
  | asg (tg : Tg) (e : CE)
  | own (i : Nat) (e : CE)
  | par (ts : List (Bool × Nat)) (es : CEs)
  | sto (i : Nat) (k e : CE)
  | app (i : Nat) (e : CE)
  | ext (i : Nat) (e : CE)
  | frz (is : List Nat)
  | iff (c : CE) (a b : CSs)
  | for (tg : Tg) (it : CI) (body : CSs)
  | forF (i : Nat) (fs : List Nat) (body : CSs)
  | whl (c : CE) (body : CSs)
  | ret (e : CE)
  | rai (c : Nat)
  | exp (e : CE)
  | pass
  | stk
inductive CSs where
  | nil
  | cons (s : CS) (r : CSs)
end

/-! ### what the operations give -/
abbrev bl (b : Bool) : D := .dat (.bool b)
abbrev int (i : Int) : D := .dat (.int i)
abbrev tup (ds : List PyData) : D := .dat (.tuple ds)
abbrev lst (ds : List PyData) : D := .dat (.list ds)
abbrev str (x : Str) : D := .dat (.str x)
abbrev non : D := .dat .none

/-- not too deep -/
def okD (d : PyData) : Bool := decide (d.depth ≤ 60)

mutual
/-- the key that data is (no bools, no lists) -/
def nk : PyData → Option NestedKey
  | .none => some .none
  | .int i => some (.num i)
  | .str x => some (.text x)
  | .tuple ds => (nks ds).map .tup
  | _ => none
def nks : List PyData → Option (List NestedKey)
  | [] => some []
  | d :: ds => match nk d, nks ds with
    | some k, some r => some (k :: r)
    | _, _ => none
end
/-- a tuple of depth 8 at most, as a key -/
def nkey (d : PyData) : Option NestedKey := match d with
  | .tuple _ => (nk d).bind fun k => if k.depth ≤ 8 then some k else none
  | _ => none
def kkey : PyData → Option Key
  | .int i => some (.inl i)
  | .str x => some (.inr x)
  | _ => none

def lookT {κ : Type} [DecidableEq κ] (kvs : List (κ × PyData)) (k : κ) : Option PyData := (kvs.find? fun p => decide (p.1 = k)).map (·.2)
def putT {κ : Type} [DecidableEq κ] (kvs : List (κ × PyData)) (k : κ) (v : PyData) : List (κ × PyData) :=
  if (lookT kvs k).isSome then kvs.map fun p => if p.1 = k then (p.1, v) else p else kvs ++ [(k, v)]

def cut {α : Type} (xs : List α) (lo hi : Option Int) : List α := (xs.drop (HT.sIx xs.length 0 lo)).take (HT.sIx xs.length xs.length hi - HT.sIx xs.length 0 lo)

def line : Nat := sizeLine
def fits {α : Type} (xs : List α) : Bool := decide (xs.length ≤ sizeLine)

def opAdd : D → D → Option D
  | .dat (.int i), .dat (.int j) => some (int (i + j))
  | .dat (.str x), .dat (.str y) => if x.length + y.length ≤ sizeLine then some (str (x ++ y)) else none
  | .dat (.tuple xs), .dat (.tuple ys) => if xs.length + ys.length ≤ sizeLine then some (tup (xs ++ ys)) else none
  | .dat (.list xs), .dat (.list ys) => if xs.length + ys.length ≤ sizeLine then some (lst (xs ++ ys)) else none
  | _, _ => none
def opSub : D → D → Option D
  | .dat (.int i), .dat (.int j) => some (int (i - j))
  | _, _ => none
def opMul : D → D → Option D
  | .dat (.tuple xs), .dat (.int k) => if xs ≠ [] ∧ 1 ≤ k ∧ k ≤ 1000 ∧ xs.length ≤ 1000 then some (tup (List.replicate k.toNat xs).flatten) else none
  | .dat (.list xs), .dat (.int k) => if 0 ≤ k ∧ k ≤ 1000 ∧ xs.length ≤ 1000 then some (lst (List.replicate k.toNat xs).flatten) else none
  | _, _ => none
def opMod : D → D → Option D
  | .dat (.int i), .dat (.int j) => if 0 < j then some (int (i % j)) else none
  | _, _ => none
def opFdiv : D → D → Option D
  | .dat (.int i), .dat (.int j) => if 0 < j ∧ j < 1073741824 then some (int (i / j)) else none
  | _, _ => none
def opBin : BO → D → D → Option D
  | .add => opAdd
  | .sub => opSub
  | .mul => opMul
  | .mod => opMod
  | .fdiv => opFdiv

def cmpOk (a b : PyData) : Bool := W.alike a b && okD a && okD b

def opEq : D → D → Option Bool
  | .dat a, .dat b => if okD a && okD b then some (PyData.eqv a b) else none
  | _, _ => none
def opLt : D → D → Option Bool
  | .dat (.int i), .dat (.int j) => some (decide (i < j))
  | .dat (.tuple xs), .dat (.tuple ys) => if cmpOk (.tuple xs) (.tuple ys) then some (W.dataLt (.tuple xs) (.tuple ys)) else none
  | _, _ => none
def opLe : D → D → Option Bool
  | .dat (.int i), .dat (.int j) => some (decide (i ≤ j))
  | .dat (.tuple xs), .dat (.tuple ys) => if cmpOk (.tuple xs) (.tuple ys) then some (!W.dataLt (.tuple ys) (.tuple xs)) else none
  | _, _ => none
def opGt : D → D → Option Bool
  | .dat (.int i), .dat (.int j) => some (decide (j < i))
  | _, _ => none
def opGe : D → D → Option Bool
  | .dat (.int i), .dat (.int j) => some (decide (j ≤ i))
  | _, _ => none
def opIn : D → D → Option Bool
  | .dat a, .dat (.list ds) => if okD a && okD (.list ds) then some (ds.any fun z => PyData.eqv z a) else none
  | .dat a, .dat (.tuple ds) => if okD a && okD (.tuple ds) then some (ds.any fun z => PyData.eqv z a) else none
  | .dat a, .dT kvs => (nkey a).map fun k => (lookT kvs k).isSome
  | _, _ => none
def opCmp : CO → D → D → Option Bool
  | .eq => opEq
  | .ne => fun x y => (opEq x y).map (!·)
  | .lt => opLt
  | .le => opLe
  | .gt => opGt
  | .ge => opGe
  | .isin => opIn
  | .notin => fun x y => (opIn x y).map (!·)

def opIdx : D → D → Option D
  | .dat (.list xs), .dat (.int i) => (atI xs i).map .dat
  | .dat (.tuple xs), .dat (.int i) => (atI xs i).map .dat
  | .dat (.str z), .dat (.int i) => if z.length ≤ sizeLine then (atI z.cps.toList i).map fun c => str ⟨#[c]⟩ else none
  | .dK kvs, .dat d => (kkey d).bind fun k => (lookT kvs k).map .dat
  | .dT kvs, .dat d => (nkey d).bind fun k => (lookT kvs k).map .dat
  | _, _ => none

def opCut : D → Option Int → Option Int → Option D
  | .dat (.list xs), lo, hi => some (lst (cut xs lo hi))
  | .dat (.tuple xs), lo, hi => some (tup (cut xs lo hi))
  | .dat (.str z), lo, hi => if z.length ≤ sizeLine then some (str (cutS z lo hi)) else none
  | _, _, _ => none

def opRev : D → Option D
  | .dat (.tuple xs) => some (tup xs.reverse)
  | _ => none

def bools : List PyData → Option (List Bool)
  | [] => some []
  | .bool b :: r => (bools r).map (b :: ·)
  | _ => none

/-- data that may be sorted: alike, and all tuples with an item at least, or none a tuple or None -/
def sortable (ds : List PyData) : Bool :=
  fits ds && (ds.all fun a => ds.all fun b => W.alike a b) && (ds.all fun d => okD d) &&
    ((ds.all fun d => match d with | .tuple (_ :: _) => true | _ => false) || (ds.all fun d => match d with | .tuple _ => false | .none => false | _ => true)) && (ds.all fun d => (nk d).isSome)
/-- sorted, by insertion -/
def insL {α : Type} (le : α → α → Bool) (x : α) : List α → List α
  | [] => [x]
  | y :: ys => if le x y then x :: y :: ys else y :: insL le x ys
def isortL {α : Type} (le : α → α → Bool) : List α → List α
  | [] => []
  | x :: xs => insL le x (isortL le xs)
/-- data, one not behind the other -/
def dle (a b : PyData) : Bool := !W.dataLt b a
def sortD (ds : List PyData) : List PyData := isortL dle ds

def isTy : Ty → PyData → Bool
  | .int, .int _ => true
  | .int, .bool _ => true
  | .bool, .bool _ => true
  | .tuple, .tuple _ => true
  | .str, .str _ => true
  | _, _ => false

def opLen : D → Option D
  | .dat (.list xs) => some (int xs.length)
  | .dat (.tuple xs) => some (int xs.length)
  | .dat (.str z) => if z.length ≤ sizeLine then some (int z.length) else none
  | _ => none
def opAll : D → Option D
  | .dat (.list xs) => (bools xs).map fun bs => bl (bs.all id)
  | _ => none
def opTuple : D → Option D
  | .dat (.list xs) => some (tup xs)
  | .dat (.tuple xs) => some (tup xs)
  | _ => none
def opList : D → Option D
  | .dat (.list xs) => some (lst xs)
  | .dat (.tuple xs) => some (lst xs)
  | _ => none
def opSorted : D → Option D
  | .dat (.list xs) => if sortable xs then some (lst (sortD xs)) else none
  | .dT kvs => if sortable (kvs.map fun p => p.1.data) then some (lst (sortD (kvs.map fun p => p.1.data))) else none
  | _ => none
def opMin : D → Option D
  | .dat (.list (x :: xs)) => if sortable (x :: xs) then some (.dat (W.minD x xs)) else none
  | _ => none
def opStr : D → Option D
  | .dat (.int i) => if i.natAbs < 1000000 then some (str (toString i : String)) else none
  | .dat (.str x) => some (str x)
  | _ => none
def opInt : D → Option D
  | .dat (.str x) => if x.length ≤ 640 then (intText? x).map int else none
  | _ => none
def opP1 : P1 → D → Option D
  | .len => opLen
  | .all => opAll
  | .tuple => opTuple
  | .list => opList
  | .sorted => opSorted
  | .min => opMin
  | .str => opStr
  | .int => opInt

def keysL : List PyData → Option (List NestedKey)
  | [] => some []
  | d :: ds => match nkey d, keysL ds with
    | some k, some r => some (k :: r)
    | _, _ => none
/-- without what comes again -/
def onceK : List NestedKey → List NestedKey
  | [] => []
  | k :: ks => if k ∈ ks then onceK ks else k :: onceK ks
def setSort (xs : List PyData) : Option (List PyData) := if sortable xs && decide (xs.length < 64) then (keysL xs).map fun ks => sortD ((onceK ks).map (·.data)) else none
/-- sorted(set(x)) -/
def opSet : D → Option (List PyData)
  | .dat (.list xs) => setSort xs
  | .dat (.tuple xs) => setSort xs
  | _ => none

def intL : List PyData → Option (List Int)
  | [] => some []
  | .int i :: r => (intL r).map (i :: ·)
  | _ => none
def intTs : List PyData → Option (List (List Int))
  | [] => some []
  | .tuple l :: r => match intL l, intTs r with
    | some x, some xs => some (x :: xs)
    | _, _ => none
  | _ => none
/-- without what comes again -/
def once (l : List (List Int)) : List (List Int) := match l with
  | [] => []
  | x :: xs => if x ∈ xs then once xs else x :: once xs
/-- len(set(x)), a list of tuples of ints -/
def opLset : D → Option D
  | .dat (.list xs) => if xs.length < 64 then (intTs xs).map fun l => int (once l).length else none
  | _ => none

def enumFrom' (i : Nat) : List PyData → List PyData
  | [] => []
  | d :: ds => .tuple [.int i, d] :: enumFrom' (i + 1) ds

def zipD : List PyData → List PyData → List PyData
  | a :: as, b :: bs => .tuple [a, b] :: zipD as bs
  | _, _ => []

def rngD (n : Int) : List PyData := (List.range n.toNat).map fun (i : Nat) => .int (i : Int)

def seqOf : D → Option (List PyData)
  | .dat (.list xs) => some xs
  | .dat (.tuple xs) => some xs
  | _ => none

/-- dict(x), x a list of pairs, numbers or texts for keys -/
def pairK : List PyData → Option (List (Key × PyData))
  | [] => some []
  | .tuple [k, d] :: r => match kkey k, pairK r with
    | some k, some r => some ((k, d) :: r)
    | _, _ => none
  | _ => none
def opDict : D → Option (List (Key × PyData))
  | .dat (.list xs) => if xs.length ≤ 1000 then (pairK xs).map fun ps => ps.foldl (fun kvs p => putT kvs p.1 p.2) [] else none
  | _ => none

def datL : List D → Option (List PyData)
  | [] => some []
  | .dat d :: r => (datL r).map (d :: ·)
  | _ => none

def strsOf : List PyData → Option (List Str)
  | [] => some []
  | .str x :: r => (strsOf r).map (x :: ·)
  | _ => none

def opIndex : D → D → Option D
  | .dat (.tuple xs), .dat (.int k) => (intL xs).bind fun ns => if k ∈ ns then some (int ((ns.idxOf k : Nat) : Int)) else none
  | _, _ => none
def opSplit : D → D → Option D
  | .dat (.str a), .dat (.str b) => if b.length ≠ 0 ∧ a.length + 2 ≤ sizeLine then some (lst ((Txt.split a b).map .str)) else none
  | _, _ => none
def opJoin : D → D → Option D
  | .dat (.str a), .dat (.list ys) => (strsOf ys).bind fun zs => if (zs.map (·.length)).sum + zs.length * a.length ≤ 16777216 then some (str (Txt.join a zs)) else none
  | _, _ => none
def opCount : D → D → Option D
  | .dat (.str a), .dat (.str b) => some (int (Txt.count a b))
  | _, _ => none
def opMt : Mt → D → D → Option D
  | .index => opIndex
  | .split => opSplit
  | .join => opJoin
  | .count => opCount

def resName : Nat → Str
  | 0 => "items" | 1 => "action" | 2 => "state" | 3 => "plan" | 4 => "guards" | 5 => "start" | 6 => "run" | 7 => "order" | 8 => "outcome" | 9 => "text" | 10 => "ended" | _ => "undo"

/-! ### names -/
def setE (env : Env) (i : Nat) (d : D) : Env := env.set i (some (false, d))
mutual
def tgSl : Tg → List Nat
  | .v i => [i]
  | .t ts => tgSls ts
def tgSls : List Tg → List Nat
  | [] => []
  | t :: ts => tgSl t ++ tgSls ts
end
mutual
def bindTg : Tg → PyData → Env → Option Env
  | .v i, d, env => some (setE env i (.dat d))
  | .t ts, .tuple ds, env => bindTgs ts ds env
  | .t _, _, _ => none
def bindTgs : List Tg → List PyData → Env → Option Env
  | [], [], env => some env
  | t :: ts, d :: ds, env => (bindTg t d env).bind (bindTgs ts ds)
  | _, _, _ => none
end
def wipeE (env : Env) : List Nat → Env
  | [] => env
  | i :: is => (wipeE env is).set i none
def frzE (env : Env) : List Nat → Env
  | [] => env
  | i :: is => match (frzE env is)[i]? with
    | some (some (_, d)) => (frzE env is).set i (some (false, d))
    | _ => frzE env is

/-- none of the slots is still written -/
def ownFree (env : Env) (l : List Nat) : Bool := l.all fun i => match env[i]? with
  | some (some (true, _)) => false
  | _ => true

def isNon : PyData → Bool
  | .none => true
  | _ => false
def truth : D → M Bool
  | .dat (.bool b) => M.ret b
  | _ => M.non

/-- the turns of a comprehension -/
def lcGo (turn : PyData → M (Option PyData)) : List PyData → M (List PyData)
  | [] => M.ret []
  | x :: xs => do
    let y ← turn x
    let r ← lcGo turn xs
    M.ret (match y with | some y => y :: r | none => r)

inductive Fl where
  | nx (env : Env)
  | rt (d : D)

def forGo (turn : PyData → Env → M Fl) : List PyData → Env → M Fl
  | [], env => M.ret (.nx env)
  | x :: xs, env => do
    match ← turn x env with
    | .nx env' => forGo turn xs env'
    | .rt d => M.ret (.rt d)

def forFGo (turn : Nat → Env → M Fl) : List Nat → Env → M Fl
  | [], env => M.ret (.nx env)
  | x :: xs, env => do
    match ← turn x env with
    | .nx env' => forFGo turn xs env'
    | .rt d => M.ret (.rt d)

def whGo (c : Env → M Bool) (body : Env → M Fl) : Nat → Env → M Fl
  | 0, _ => M.non
  | n + 1, env => do
    if ← c env then
      match ← body env with
      | .nx env' => whGo c body n env'
      | .rt d => M.ret (.rt d)
    else M.ret (.nx env)

def enumM : D → M (List PyData)
  | .dat (.tuple ds) => M.ret (enumFrom' 0 ds)
  | _ => M.non
def zipM : D → D → M (List PyData)
  | .dat (.tuple xs), .dat (.tuple ys) => M.ret (zipD xs ys)
  | _, _ => M.non
def keysM : D → M (List PyData)
  | .dT kvs => M.ret (kvs.map fun p => p.1.data)
  | _ => M.non
def datOf : D → M PyData
  | .dat d => M.ret d
  | _ => M.non
def dTOf : D → M (List (NestedKey × PyData))
  | .dT kvs => M.ret kvs
  | _ => M.non
def intOf : D → M Int
  | .dat (.int i) => M.ret i
  | _ => M.non

/-! ### the meaning -/
section
variable (G : Nat → Fun)
mutual
def ev (md : Bool) : CE → Env → M D
  | .cst d, _ => M.ret (.dat d)
  | .gcon _ d, _ => M.ret (.dat d)
  | .fnc i, _ => M.ret (.fn i)
  | .var i, env => match env[i]? with
    | some (some (o, d)) => if md && o then M.non else M.ret d
    | _ => M.non
  | .tup es, env => do
    let ds ← evs es env
    let ds ← M.of (datL ds)
    if fits ds then M.ret (tup ds) else M.non
  | .lst es, env => do
    let ds ← evs es env
    let ds ← M.of (datL ds)
    if fits ds then M.ret (lst ds) else M.non
  | .bin o a b, env => do
    let x ← ev false a env
    let y ← ev false b env
    M.of (opBin o x y)
  | .neg a, env => do
    let i ← intOf (← ev false a env)
    M.ret (int (-i))
  | .cmp o a b, env => do
    let x ← ev false a env
    let y ← ev false b env
    let r ← M.of (opCmp o x y)
    M.ret (bl r)
  | .isN a, env => do
    let x ← datOf (← ev false a env)
    M.ret (bl (isNon x))
  | .notN a, env => do
    let x ← datOf (← ev false a env)
    M.ret (bl (!isNon x))
  | .chn a b c, env => do
    let x ← intOf (← ev false a env)
    let y ← intOf (← ev false b env)
    if x ≤ y then
      let z ← intOf (← ev false c env)
      M.ret (bl (decide (y ≤ z)))
    else M.ret (bl false)
  | .and es, env => do
    let r ← evAnd es env
    M.ret (bl r)
  | .or es, env => do
    let r ← evOr es env
    M.ret (bl r)
  | .not a, env => do
    let r ← truth (← ev true a env)
    M.ret (bl (!r))
  | .ite c a b, env => do
    if ← truth (← ev true c env) then ev md a env else ev md b env
  | .idx a b, env => do
    let x ← ev false a env
    let y ← ev false b env
    M.of (opIdx x y)
  | .slL a lo, env => do
    let x ← ev false a env
    let i ← intOf (← ev false lo env)
    M.of (opCut x (some i) none)
  | .slH a hi, env => do
    let x ← ev false a env
    let i ← intOf (← ev false hi env)
    M.of (opCut x none (some i))
  | .sl2 a lo hi, env => do
    let x ← ev false a env
    let i ← intOf (← ev false lo env)
    let j ← intOf (← ev false hi env)
    M.of (opCut x (some i) (some j))
  | .slR a, env => do
    let x ← ev false a env
    M.of (opRev x)
  | .lc own tg it elt, env => do
    let xs ← evI false it env
    if ownFree env own then
      let r ← lcGo (fun x => M.nox (do
        let e ← M.of (bindTg tg x (wipeE env own))
        let y ← datOf (← ev true elt e)
        M.ret (some y))) xs
      if fits r then M.ret (lst r) else M.non
    else M.non
  | .lcIf own tg it cond elt, env => do
    let xs ← evI false it env
    if ownFree env own then
      let r ← lcGo (fun x => M.nox (do
        let e ← M.of (bindTg tg x (wipeE env own))
        if ← truth (← ev true cond e) then (do let y ← datOf (← ev true elt e); M.ret (some y)) else M.ret none)) xs
      if fits r then M.ret (lst r) else M.non
    else M.non
  | .call f es, env => do
    let ds ← evs es env
    G f ds
  | .callv i fs es, env => do
    match env[i]? with
    | some (some (false, .fn f)) => if f ∈ fs then (do let ds ← evs es env; G f ds) else M.non
    | _ => M.non
  | .p1 p a, env => do
    let x ← ev false a env
    M.of (opP1 p x)
  | .lrng a, env => do
    let n ← intOf (← ev false a env)
    if 0 ≤ n ∧ n ≤ 1000 then M.ret (lst (rngD n)) else M.non
  | .trng a, env => do
    let n ← intOf (← ev false a env)
    if 0 ≤ n ∧ n ≤ 1000 then M.ret (tup (rngD n)) else M.non
  | .min2 a b, env => do
    let i ← intOf (← ev true a env)
    let j ← intOf (← ev true b env)
    M.ret (int (if j < i then j else i))
  | .isi a t, env => do
    let x ← datOf (← ev false a env)
    M.ret (bl (isTy t x))
  | .meth m a b, env => do
    let x ← ev false a env
    let y ← ev false b env
    M.of (opMt m x y)
  | .dget d k x, env => do
    let kvs ← dTOf (← ev false d env)
    let y ← datOf (← ev true k env)
    let z ← datOf (← ev true x env)
    let k ← M.of (nkey y)
    M.ret (.dat ((lookT kvs k).getD z))
  | .ssort a, env => do
    let x ← ev false a env
    let r ← M.of (opSet x)
    M.ret (lst r)
  | .lset a, env => do
    let x ← ev false a env
    M.of (opLset x)
  | .dke a, env => do
    let x ← ev false a env
    let kvs ← M.of (opDict x)
    M.ret (.dK kvs)
  | .lenum a, env => do
    let x ← ev false a env
    match x with
    | .dat (.tuple ds) => if ds.length ≤ 1000 then M.ret (lst (enumFrom' 0 ds)) else M.non
    | _ => M.non
  | .dnew, _ => M.ret (.dT [])
  | .done k v, env => do
    let y ← datOf (← ev true k env)
    let z ← datOf (← ev true v env)
    let k ← M.of (nkey y)
    M.ret (.dT [(k, z)])
  | .res e, env => fun s => match ev true e env s with
    | .ok (.dat d) s' => .ok (tup [.str "returns", d]) s'
    | .ok _ _ => .stuck
    | .exc c s' => if c < 12 then .ok (tup [.str (resName c)]) s' else .stuck
    | .stuck => .stuck
def evs : CEs → Env → M (List D)
  | .nil, _ => M.ret []
  | .cons e r, env => do
    let x ← ev true e env
    let xs ← evs r env
    M.ret (x :: xs)
def evAnd : CEs → Env → M Bool
  | .nil, _ => M.ret true
  | .cons e r, env => do
    if ← truth (← ev true e env) then evAnd r env else M.ret false
def evOr : CEs → Env → M Bool
  | .nil, _ => M.ret false
  | .cons e r, env => do
    if ← truth (← ev true e env) then M.ret true else evOr r env
def evI (md : Bool) : CI → Env → M (List PyData)
  | .seq e, env => do
    let x ← ev md e env
    M.of (seqOf x)
  | .rng e, env => do
    let n ← intOf (← ev true e env)
    if n ≤ 1000 ∧ -1000 ≤ n then M.ret (rngD n) else M.non
  | .enum e, env => do
    let x ← ev true e env
    enumM x
  | .zip a b, env => do
    let x ← ev true a env
    let y ← ev true b env
    zipM x y
  | .keys e, env => do
    let x ← ev md e env
    keysM x
end

/-- several names at once -/
def parE : List (Bool × Nat) → List D → Env → Env
  | t :: ts, d :: ds, env => parE ts ds (env.set t.2 (some (t.1, d)))
  | _, _, env => env

def stoD : D → PyData → PyData → Option D
  | .dat (.list xs), .int i, d => (ixN xs.length i).map fun j => lst (xs.set j d)
  | .dT kvs, y, d => (nkey y).bind fun k => if kvs.length < sizeLine then some (.dT (putT kvs k d)) else none
  | .dK kvs, y, d => (kkey y).bind fun k => if kvs.length < sizeLine then some (.dK (putT kvs k d)) else none
  | _, _, _ => none
/-- what is still written -/
def ownD (env : Env) (i : Nat) : Option D := match env[i]? with
  | some (some (true, d)) => some d
  | _ => none
def ownL (env : Env) (i : Nat) : Option (List PyData) := match env[i]? with
  | some (some (true, .dat (.list xs))) => some xs
  | _ => none
def listD : D → Option (List PyData)
  | .dat (.list ys) => some ys
  | _ => none

variable (fu : Nat)
mutual
def ex : CS → Env → M Fl
  | .asg tg e, env => do
    match tg with
    | .v i => (do let d ← ev G true e env; M.ret (.nx (setE env i d)))
    | .t ts => (do
      let d ← datOf (← ev G true e env)
      let env' ← M.of (bindTg (.t ts) d env)
      M.ret (.nx env'))
  | .own i e, env => do
    let d ← ev G true e env
    M.ret (.nx (env.set i (some (true, d))))
  | .par ts es, env => do
    let ds ← evs G es env
    if ds.length = ts.length then M.ret (.nx (parE ts ds env)) else M.non
  | .sto i k e, env => do
    let d ← datOf (← ev G true e env)
    let m ← M.of (ownD env i)
    let y ← datOf (← ev G true k env)
    let m' ← M.of (stoD m y d)
    M.ret (.nx (env.set i (some (true, m'))))
  | .app i e, env => do
    let xs ← M.of (ownL env i)
    let d ← datOf (← ev G true e env)
    if xs.length < sizeLine then M.ret (.nx (env.set i (some (true, lst (xs ++ [d]))))) else M.non
  | .ext i e, env => do
    let xs ← M.of (ownL env i)
    let ys ← M.of (listD (← ev G true e env))
    if xs.length + ys.length ≤ sizeLine then M.ret (.nx (env.set i (some (true, lst (xs ++ ys))))) else M.non
  | .frz is, env => M.ret (.nx (frzE env is))
  | .iff c a b, env => do
    if ← truth (← ev G true c env) then exs a env else exs b env
  | .for tg it body, env => do
    let xs ← evI G true it env
    forGo (fun x env => do
      let env' ← M.of (bindTg tg x env)
      exs body env') xs env
  | .forF i fs body, env => forFGo (fun f env => exs body (setE env i (.fn f))) fs env
  | .whl c body, env => whGo (fun env => do truth (← ev G true c env)) (fun env => exs body env) fu env
  | .ret e, env => do
    let d ← ev G true e env
    M.ret (.rt d)
  | .rai c, _ => M.rai c
  | .exp e, env => do
    let _ ← ev G true e env
    M.ret (.nx env)
  | .pass, env => M.ret (.nx env)
  | .stk, _ => M.non
def exs : CSs → Env → M Fl
  | .nil, env => M.ret (.nx env)
  | .cons s r, env => do
    match ← ex s env with
    | .nx env' => exs r env'
    | .rt d => M.ret (.rt d)
end
end

/-- a def: how many parameters, how many slots, its body -/
structure CF where
  np : Nat
  ns : Nat
  body : CSs

def runF (G : Nat → Fun) (fu : Nat) (f : CF) : Fun := fun ds =>
  if ds.length = f.np then do
    match ← exs G fu f.body (ds.map (fun d => some (false, d)) ++ List.replicate (f.ns - f.np) none) with
    | .nx _ => M.ret non
    | .rt d => M.ret d
  else M.non
end BK
set_option Elab.async false
set_option linter.all false
set_option maxRecDepth 100000
/-! What the values of the small language are in the abstract heap. -/
namespace BK
open PySem L2

abbrev St := L2.St
/-! ### the monad -/
def Wp {α : Type} (r : Res α) (Q : α → Twn → Prop) (E : Nat → Twn → Prop) : Prop := match r with
  | .ok a s => Q a s
  | .exc c s => E c s
  | .stuck => False
theorem Wp.bnd {α β : Type} {x : M α} {f : α → M β} {s : Twn} {Q : β → Twn → Prop} {E : Nat → Twn → Prop} (h : Wp ((x >>= f) s) Q E) : Wp (x s) (fun a s' => Wp (f a s') Q E) E := by
  show Wp (x s) _ _
  have h : Wp (M.bnd x f s) Q E := h
  unfold M.bnd at h
  cases e : x s with
  | ok a s' => rw [e] at h; exact h
  | exc c s' => rw [e] at h; exact h
  | stuck => rw [e] at h; exact h
theorem Wp.mono {α : Type} {r : Res α} {Q Q' : α → Twn → Prop} {E E' : Nat → Twn → Prop} (h : Wp r Q E) (hq : ∀ a s, Q a s → Q' a s) (he : ∀ c s, E c s → E' c s) : Wp r Q' E' := by
  cases r with
  | ok a s => exact hq a s h
  | exc c s => exact he c s h
  | stuck => exact h.elim
theorem Wp.of {α : Type} {o : Option α} {s : Twn} {Q : α → Twn → Prop} {E : Nat → Twn → Prop} (h : Wp (M.of o s) Q E) : ∃ a, o = some a ∧ Q a s := by
  cases o with
  | none => exact h.elim
  | some a => exact ⟨a, rfl, h⟩
theorem Wp.iff {α : Type} {c : Prop} [Decidable c] {x y : M α} {s : Twn} {Q : α → Twn → Prop} {E : Nat → Twn → Prop} (h : Wp ((if c then x else y) s) Q E) : (c ∧ Wp (x s) Q E) ∨ (¬ c ∧ Wp (y s) Q E) := by
  by_cases hc : c
  · rw [if_pos hc] at h; exact .inl ⟨hc, h⟩
  · rw [if_neg hc] at h; exact .inr ⟨hc, h⟩
theorem Wp.ifN {α : Type} {c : Prop} [Decidable c] {x : M α} {s : Twn} {Q : α → Twn → Prop} {E : Nat → Twn → Prop} (h : Wp ((if c then x else M.non) s) Q E) : c ∧ Wp (x s) Q E := by
  rcases h.iff with h | ⟨_, h⟩
  · exact h
  · exact h.elim

/-! ### what stays -/
structure Tn where
  ta : Addr
  ra : Addr
  tabs : List (Addr × Str)
  sa : Addr
  fa : Nat → Addr
  cl : Nat → Value
  scr : List Int
  dy : Bool
  K : PySem.W.Frag
def Tn.T (τ : Tn) (a : Addr) : Prop := a = τ.ta ∨ a = τ.ra
/-- the script, too, unless it is of the frame of all things -/
def Tn.U (τ : Tn) (a : Addr) : Prop := τ.T a ∨ (τ.dy = true ∧ a = τ.sa)
def Scr (τ : Tn) (H : Hp) : Prop := if τ.dy = true then Rd H τ.sa (.lst (τ.scr.map V.int)) else SqL τ.K (fun _ => none) τ.sa (τ.scr.map V.int)
theorem Scr.seq {τ : Tn} {H : Hp} (h : Scr τ H) : SqL τ.K H τ.sa (τ.scr.map V.int) := by
  unfold Scr at h
  split at h
  · exact .inl h
  · rcases h with (h | ⟨o, h⟩) | h
    · cases h
    · cases h
    · exact .inr h
/-- the object o, as it is -/
def ObO (a : Addr) (o : Obj) : HO := .ext fun h => h.get? a = some o

def TownR (τ : Tn) (H : Hp) (s : Twn) : Prop :=
  H τ.ta = some (.dK [(.inr "count", .int s.cnt), (.inr "rests", .ref τ.ra)]) ∧ H τ.ra = some (.dK (s.rests.map fun p => (.inl p.1, .int p.2))) ∧ τ.ta ≠ τ.ra ∧ LamX.Tabs τ.tabs H ∧ Scr τ H
/-- nothing but new objects -/
def Al (H H' : Hp) : Prop := ∀ a o, H a = some o → H' a = some o
/-- what is not in S stays -/
def Ke (S : Addr → Prop) (H H' : Hp) : Prop := (∀ a o, ¬ S a → (∀ ps, o ≠ .tbl ps) → H a = some o → H' a = some o) ∧ (∀ a, H a ≠ none → H' a ≠ none) ∧ ∀ a xs, Rd H a (.tup xs) → Rd H' a (.tup xs)
abbrev Xt (τ : Tn) (H H' : Hp) : Prop := Ke τ.T H H'
theorem Ke.mono {S S' : Addr → Prop} {H H' : Hp} (h : Ke S H H') (hs : ∀ a, S a → S' a) : Ke S' H H' := ⟨fun a o n => h.1 a o fun z => n (hs a z), h.2⟩
theorem Ke.trans {S : Addr → Prop} {H H1 H2 : Hp} (a : Ke S H H1) (b : Ke S H1 H2) : Ke S H H2 := ⟨fun c o h1 h2 e => b.1 c o h1 h2 (a.1 c o h1 h2 e), fun c n => b.2.1 c (a.2.1 c n), fun c xs h => b.2.2 c xs (a.2.2 c xs h)⟩
/-- what is new may be written, too -/
theorem Ke.ext {S S' : Addr → Prop} {H H1 H2 : Hp} (a : Ke S H H1) (b : Ke S' H1 H2) (hs : ∀ c, S' c → S c ∨ H c = none) : Ke S H H2 :=
  ⟨fun c o h1 h2 e => b.1 c o (fun z => (hs c z).elim h1 fun z => by rw [z] at e; cases e) h2 (a.1 c o h1 h2 e), fun c n => b.2.1 c (a.2.1 c n), fun c xs h => b.2.2 c xs (a.2.2 c xs h)⟩
theorem Al.refl (H : Hp) : Al H H := fun _ _ h => h
theorem Al.trans {H H1 H2 : Hp} (a : Al H H1) (b : Al H1 H2) : Al H H2 := fun c o h => b c o (a c o h)
theorem Al.new {H : Hp} {p : Addr} {o : HO} (h : H p = none) : Al H (upd H p o) := fun b x e => by
  rw [upd_ne (ne_of_none e h)]; exact e
theorem Al.rd {H H' : Hp} (h : Al H H') {a : Addr} {x : HO} (r : Rd H a x) : Rd H' a x := r.imp (h a _) fun ⟨o, e⟩ => ⟨o, h a _ e⟩
theorem Al.ke {S : Addr → Prop} {H H' : Hp} (h : Al H H') : Ke S H H' := ⟨fun a o _ _ e => h a o e, fun a n => (by
  cases q : H a with
  | none => exact absurd q n
  | some o => rw [h a o q]; simp), fun _ _ r => h.rd r⟩
theorem Scr.al {τ : Tn} {H H' : Hp} (t : Scr τ H) (h : Al H H') : Scr τ H' := by
  unfold Scr at t ⊢
  split
  · rw [if_pos (by assumption)] at t
    exact h.rd t
  · rw [if_neg (by assumption)] at t
    exact t
theorem Al.xt {τ : Tn} {H H' : Hp} (h : Al H H') : Xt τ H H' := h.ke
theorem Xt.refl {τ : Tn} (H : Hp) : Xt τ H H := (Al.refl H).xt
theorem Al.town {τ : Tn} {H H' : Hp} {s : Twn} (h : Al H H') (t : TownR τ H s) : TownR τ H' s := ⟨h _ _ t.1, h _ _ t.2.1, t.2.2.1, t.2.2.2.1.ext h, t.2.2.2.2.al h⟩
theorem TownR.ne {τ : Tn} {H : Hp} {s : Twn} (t : TownR τ H s) {a : Addr} (h : τ.U a) : H a ≠ none := by
  rcases h with (rfl | rfl) | ⟨h, rfl⟩
  · rw [t.1]; simp
  · rw [t.2.1]; simp
  · have z := t.2.2.2.2
    unfold Scr at z
    rw [if_pos h] at z
    rcases z with z | ⟨o, z⟩ <;> rw [z] <;> simp

/-! ### data -/
mutual
inductive Dr (K : PySem.W.Frag) (S : Addr → Prop) (H : Hp) : V → PyData → Prop
  | non : Dr K S H .non .none
  | bl (b : Bool) : Dr K S H (.bl b) (.bool b)
  | int (i : Int) : Dr K S H (.int i) (.int i)
  | str (x : Str) : Dr K S H (.str x) (.str x)
  | lst {a : Addr} {xs : List V} {ds : List PyData} : H a = some (.lst xs) → ¬ S a → Drs K S H xs ds → Dr K S H (.ref a) (.list ds)
  | tup {a : Addr} {xs : List V} {ds : List PyData} : SqT K H a xs → Drs K S H xs ds → Dr K S H (.ref a) (.tuple ds)
inductive Drs (K : PySem.W.Frag) (S : Addr → Prop) (H : Hp) : List V → List PyData → Prop
  | nil : Drs K S H [] []
  | cons {v : V} {vs : List V} {d : PyData} {ds : List PyData} : Dr K S H v d → Drs K S H vs ds → Drs K S H (v :: vs) (d :: ds)
end
/-- the items may be kept, the list itself may be one that is still written -/
def DrI (K : PySem.W.Frag) (S : Addr → Prop) (H : Hp) (v : V) (d : PyData) : Prop := Dr K S H v d ∨ ∃ a xs ds, v = .ref a ∧ d = .list ds ∧ H a = some (.lst xs) ∧ Drs K S H xs ds
section
variable {K : PySem.W.Frag} {S S' : Addr → Prop} {H H' : Hp} {τ : Tn}
theorem Dr.i {v : V} {d : PyData} (h : Dr K S H v d) : DrI K S H v d := .inl h
theorem SqT.keep {a : Addr} {xs : List V} (h : SqT K H a xs) (k : ∀ o, (∀ ps, o ≠ .tbl ps) → (∀ kvs, o ≠ .dK kvs) → H a = some o → H' a = some o) : SqT K H' a xs := by
  rcases h with (h | ⟨o, h⟩) | h
  · exact .inl (.inl (k _ (fun _ z => by cases z) (fun _ z => by cases z) h))
  · exact .inl (.inr ⟨o, k _ (fun _ z => by cases z) (fun _ z => by cases z) h⟩)
  · exact .inr h
/-- what is neither a table nor a dict of the town stays -/
def Kp (H H' : Hp) : Prop := ∀ a o, (∀ ps, o ≠ .tbl ps) → (∀ kvs, o ≠ .dK kvs) → H a = some o → H' a = some o
mutual
theorem Dr.kp (k : ∀ a o, ¬ S a → (∀ ps, o ≠ .tbl ps) → (∀ kvs, o ≠ .dK kvs) → H a = some o → H' a = some o) (kt : ∀ a xs, SqT K H a xs → SqT K H' a xs) : ∀ (d : PyData) (v : V), Dr K S H v d → Dr K S H' v d
  | .none, _, h => by cases h; exact .non
  | .bool _, _, h => by cases h; exact .bl _
  | .int _, _, h => by cases h; exact .int _
  | .str _, _, h => by cases h; exact .str _
  | .list ds, _, h => by
    cases h with
    | lst e n hs => exact .lst (k _ _ n (fun _ z => by cases z) (fun _ z => by cases z) e) n (Drs.kp k kt ds _ hs)
  | .tuple ds, _, h => by
    cases h with
    | tup e hs => exact .tup (kt _ _ e) (Drs.kp k kt ds _ hs)
  | .dict _, _, h => by cases h
theorem Drs.kp (k : ∀ a o, ¬ S a → (∀ ps, o ≠ .tbl ps) → (∀ kvs, o ≠ .dK kvs) → H a = some o → H' a = some o) (kt : ∀ a xs, SqT K H a xs → SqT K H' a xs) : ∀ (ds : List PyData) (vs : List V), Drs K S H vs ds → Drs K S H' vs ds
  | [], _, h => by cases h; exact .nil
  | d :: ds, _, h => by
    cases h with
    | cons h1 h2 => exact .cons (Dr.kp k kt d _ h1) (Drs.kp k kt ds _ h2)
end
mutual
theorem Dr.mono (hs : ∀ a, S' a → S a) : ∀ (d : PyData) (v : V), Dr K S H v d → Dr K S' H v d
  | .none, _, h => by cases h; exact .non
  | .bool _, _, h => by cases h; exact .bl _
  | .int _, _, h => by cases h; exact .int _
  | .str _, _, h => by cases h; exact .str _
  | .list ds, _, h => by
    cases h with
    | lst e n q => exact .lst e (fun z => n (hs _ z)) (Drs.mono hs ds _ q)
  | .tuple ds, _, h => by
    cases h with
    | tup e q => exact .tup e (Drs.mono hs ds _ q)
  | .dict _, _, h => by cases h
theorem Drs.mono (hs : ∀ a, S' a → S a) : ∀ (ds : List PyData) (vs : List V), Drs K S H vs ds → Drs K S' H vs ds
  | [], _, h => by cases h; exact .nil
  | d :: ds, _, h => by
    cases h with
    | cons h1 h2 => exact .cons (Dr.mono hs d _ h1) (Drs.mono hs ds _ h2)
end
mutual
theorem Dr.fresh {p : Addr} (hp : H p = none) : ∀ (d : PyData) (v : V), Dr K S H v d → Dr K (fun a => S a ∨ a = p) H v d
  | .none, _, h => by cases h; exact .non
  | .bool _, _, h => by cases h; exact .bl _
  | .int _, _, h => by cases h; exact .int _
  | .str _, _, h => by cases h; exact .str _
  | .list ds, _, h => by
    cases h with
    | lst e n q => exact .lst e (fun z => z.elim n fun z => by rw [z, hp] at e; cases e) (Drs.fresh hp ds _ q)
  | .tuple ds, _, h => by
    cases h with
    | tup e q => exact .tup e (Drs.fresh hp ds _ q)
  | .dict _, _, h => by cases h
theorem Drs.fresh {p : Addr} (hp : H p = none) : ∀ (ds : List PyData) (vs : List V), Drs K S H vs ds → Drs K (fun a => S a ∨ a = p) H vs ds
  | [], _, h => by cases h; exact .nil
  | d :: ds, _, h => by
    cases h with
    | cons h1 h2 => exact .cons (Dr.fresh hp d _ h1) (Drs.fresh hp ds _ h2)
end
mutual
/-- the set may be shifted where nothing is -/
theorem Dr.shift (hs : ∀ a, S' a → S a ∨ H a = none) : ∀ (d : PyData) (v : V), Dr K S H v d → Dr K S' H v d
  | .none, _, h => by cases h; exact .non
  | .bool _, _, h => by cases h; exact .bl _
  | .int _, _, h => by cases h; exact .int _
  | .str _, _, h => by cases h; exact .str _
  | .list ds, _, h => by
    cases h with
    | lst e n q => exact .lst e (fun z => (hs _ z).elim n fun z => by rw [z] at e; cases e) (Drs.shift hs ds _ q)
  | .tuple ds, _, h => by
    cases h with
    | tup e q => exact .tup e (Drs.shift hs ds _ q)
  | .dict _, _, h => by cases h
theorem Drs.shift (hs : ∀ a, S' a → S a ∨ H a = none) : ∀ (ds : List PyData) (vs : List V), Drs K S H vs ds → Drs K S' H vs ds
  | [], _, h => by cases h; exact .nil
  | d :: ds, _, h => by
    cases h with
    | cons h1 h2 => exact .cons (Dr.shift hs d _ h1) (Drs.shift hs ds _ h2)
end
mutual
theorem Dr.dp : ∀ (d : PyData) (v : V), Dr K S H v d → Dp K H v d
  | .none, _, h => by cases h; exact .non
  | .bool _, _, h => by cases h; exact .bl _
  | .int _, _, h => by cases h; exact .int _
  | .str _, _, h => by cases h; exact .str _
  | .list ds, _, h => by
    cases h with
    | lst e n q => exact .lst (SqL.of e) (Drs.dp ds _ q)
  | .tuple ds, _, h => by
    cases h with
    | tup e q => exact .tup e (Drs.dp ds _ q)
  | .dict _, _, h => by cases h
theorem Drs.dp : ∀ (ds : List PyData) (vs : List V), Drs K S H vs ds → DpAll K H vs ds
  | [], _, h => by cases h; exact .nil
  | d :: ds, _, h => by
    cases h with
    | cons h1 h2 => exact .cons (Dr.dp d _ h1) (Drs.dp ds _ h2)
end
theorem DrI.dp {v : V} {d : PyData} (h : DrI K S H v d) : Dp K H v d := by
  rcases h with h | ⟨a, xs, ds, rfl, rfl, e, q⟩
  · exact h.dp
  · exact .lst (SqL.of e) q.dp
theorem Ke.sqt {S : Addr → Prop} (x : Ke S H H') {a : Addr} {xs : List V} (h : SqT K H a xs) : SqT K H' a xs := h.imp (x.2.2 a xs) id
/-- what avoids S' stays while only S is written -/
theorem Ke.dr (x : Ke S H H') (hS : ∀ a, S a → S' a) {v : V} {d : PyData} (h : Dr K S' H v d) : Dr K S' H' v d := h.kp (fun a o n h1 _ e => x.1 a o (fun z => n (hS a z)) h1 e) fun a xs q => x.sqt q
theorem Ke.drs (x : Ke S H H') (hS : ∀ a, S a → S' a) {vs : List V} {ds : List PyData} (h : Drs K S' H vs ds) : Drs K S' H' vs ds := h.kp (fun a o n h1 _ e => x.1 a o (fun z => n (hS a z)) h1 e) fun a xs q => x.sqt q
theorem Xt.sqt {s : Twn} (x : Xt τ H H') (t : TownR τ H s) {a : Addr} {xs : List V} (h : SqT K H a xs) : SqT K H' a xs := Ke.sqt x h
theorem Xt.dr {s : Twn} {v : V} {d : PyData} (x : Xt τ H H') (t : TownR τ H s) (hS : ∀ a, τ.T a → S a) (h : Dr K S H v d) : Dr K S H' v d := h.kp (fun a o n h1 _ e => x.1 a o (fun z => n (hS a z)) h1 e) fun a xs q => x.sqt t q
theorem Xt.drs {s : Twn} {vs : List V} {ds : List PyData} (x : Xt τ H H') (t : TownR τ H s) (hS : ∀ a, τ.T a → S a) (h : Drs K S H vs ds) : Drs K S H' vs ds := h.kp (fun a o n h1 _ e => x.1 a o (fun z => n (hS a z)) h1 e) fun a xs q => x.sqt t q
theorem Al.dr {v : V} {d : PyData} (x : Al H H') (h : Dr K S H v d) : Dr K S H' v d := h.kp (fun a o _ _ _ e => x a o e) fun a xs q => SqT.keep q fun o _ _ e => x a o e
theorem Al.drs {vs : List V} {ds : List PyData} (x : Al H H') (h : Drs K S H vs ds) : Drs K S H' vs ds := h.kp (fun a o _ _ _ e => x a o e) fun a xs q => SqT.keep q fun o _ _ e => x a o e
theorem Al.dri {v : V} {d : PyData} (x : Al H H') (h : DrI K S H v d) : DrI K S H' v d := by
  rcases h with h | ⟨a, xs, ds, rfl, rfl, e, q⟩
  · exact .inl (x.dr h)
  · exact .inr ⟨a, xs, ds, rfl, rfl, x _ _ e, x.drs q⟩
theorem Drs.length : ∀ {vs : List V} {ds : List PyData}, Drs K S H vs ds → vs.length = ds.length
  | _, _, .nil => rfl
  | _, _, .cons _ t => by simp [Drs.length t]
theorem Drs.get : ∀ {vs : List V} {ds : List PyData} {i : Nat} {d : PyData}, Drs K S H vs ds → ds[i]? = some d → ∃ v, vs[i]? = some v ∧ Dr K S H v d
  | _, _, _, _, .nil, e => by simp at e
  | _, _, 0, _, .cons h _, e => by simp at e; subst e; exact ⟨_, rfl, h⟩
  | _, _, i + 1, d, .cons _ t, e => by
    obtain ⟨v, h1, h2⟩ := Drs.get (i := i) (d := d) t (by simpa using e)
    exact ⟨v, by simpa using h1, h2⟩
theorem Drs.append : ∀ {vs us : List V} {ds es : List PyData}, Drs K S H vs ds → Drs K S H us es → Drs K S H (vs ++ us) (ds ++ es)
  | _, _, _, _, .nil, h => h
  | _, _, _, _, .cons h t, q => .cons h (Drs.append t q)
theorem Drs.take : ∀ {vs : List V} {ds : List PyData} (n : Nat), Drs K S H vs ds → Drs K S H (vs.take n) (ds.take n)
  | _, _, 0, _ => .nil
  | _, _, _ + 1, .nil => .nil
  | _, _, n + 1, .cons h t => .cons h (Drs.take n t)
theorem Drs.drop : ∀ {vs : List V} {ds : List PyData} (n : Nat), Drs K S H vs ds → Drs K S H (vs.drop n) (ds.drop n)
  | _, _, 0, h => h
  | _, _, _ + 1, .nil => .nil
  | _, _, n + 1, .cons _ t => Drs.drop n t
theorem Drs.reverse {vs : List V} {ds : List PyData} (h : Drs K S H vs ds) : Drs K S H vs.reverse ds.reverse := by
  induction ds generalizing vs with
  | nil => cases h; exact .nil
  | cons d ds ih =>
    cases h with
    | cons h t =>
      rw [List.reverse_cons, List.reverse_cons]
      exact (ih t).append (.cons h .nil)
theorem Drs.set {v : V} {d : PyData} (r : Dr K S H v d) : ∀ {vs : List V} {ds : List PyData} (i : Nat), Drs K S H vs ds → Drs K S H (vs.set i v) (ds.set i d)
  | _, _, _, .nil => .nil
  | _, _, 0, .cons _ t => .cons r t
  | _, _, i + 1, .cons q t => .cons q (Drs.set r i t)
theorem Drs.rep {vs : List V} {ds : List PyData} (h : Drs K S H vs ds) : ∀ n, Drs K S H (List.replicate n vs).flatten (List.replicate n ds).flatten
  | 0 => .nil
  | n + 1 => by
    rw [List.replicate_succ, List.replicate_succ, List.flatten_cons, List.flatten_cons]
    exact h.append (Drs.rep h n)
theorem Drs.cut {vs : List V} {ds : List PyData} (h : Drs K S H vs ds) (lo hi : Option Int) : Drs K S H (cutV vs lo hi) (cut ds lo hi) := by
  unfold cutV BK.cut
  rw [h.length]
  exact (h.drop _).take _
end

/-! ### values of the small language -/
/-- a dict with int and text keys -/
def DKr (K : PySem.W.Frag) (S : Addr → Prop) (H : Hp) (a : Addr) (kvs : List (Key × PyData)) : Prop :=
  ∃ vs : List (Key × V), H a = some (.dK vs) ∧ Paired (fun (p : Key × PyData) (q : Key × V) => p.1 = q.1 ∧ Dr K S H q.2 p.2) kvs vs
/-- a row of a dict with tuple keys -/
def RowR (K : PySem.W.Frag) (S : Addr → Prop) (H : Hp) (p : NestedKey × PyData) (x : NestedKey × Addr × Value) : Prop :=
  p.1 = x.1 ∧ x.1.depth ≤ 8 ∧ Dr K S H (.ref x.2.1) x.1.data ∧ ∃ v, RelV v x.2.2 ∧ Dr K S H v p.2
def DTr (P : Program) (w : World) (K : PySem.W.Frag) (S : Addr → Prop) (H : Hp) (a : Addr) (kvs : List (NestedKey × PyData)) : Prop :=
  ∃ (o : Obj) (es : Array DictEntry) (ep : Nat) (xs : List (NestedKey × Addr × Value)), H a = some (ObO a o) ∧ (a == sysModules) = false ∧ o.ExactDict ∧ o.data = .dict es ep ∧
    es.toList = xs.map (entryOfKey (nestedKind P w)) ∧ (xs.map (·.1)).Nodup ∧ xs.length ≤ sizeLine ∧ Paired (RowR K S H) kvs xs
section
variable (P : Program) (w : World) (K : PySem.W.Frag) (τ : Tn)
/-- v is the value d in H; md: the value may be kept (nothing in S is reached) -/
def Dv (S : Addr → Prop) (md : Bool) (H : Hp) (v : V) : D → Prop
  | .dat d => if md then Dr K S H v d else DrI K S H v d
  | .dK kvs => ∃ a, v = .ref a ∧ (md = true → ¬ S a) ∧ ¬ τ.T a ∧ DKr K S H a kvs
  | .dT kvs => ∃ a, v = .ref a ∧ (md = true → ¬ S a) ∧ ¬ τ.T a ∧ DTr P w K S H a kvs
  | .fn i => v = .ref (τ.fa i)
  | .town => v = .ref τ.ta
  | .scr => v = .ref τ.sa
/-- what is still written in a frame -/
def Own (env : Env) (σ : St) (a : Addr) : Prop := ∃ (i : Nat) (d : D), env[i]? = some (some (true, d)) ∧ σ[i]? = some (some (.ref a))
/-- what a kept value must not reach -/
def Av (B : Addr → Prop) (env : Env) (σ : St) (a : Addr) : Prop := B a ∨ Own env σ a
structure Rep (B : Addr → Prop) (env : Env) (σ : St) (H : Hp) : Prop where
  len : σ.length = env.length
  val : ∀ (i : Nat) (d : D), env[i]? = some (some (false, d)) → ∃ v, σ[i]? = some (some v) ∧ Dv P w K τ (Av B env σ) true H v d
  own : ∀ (i : Nat) (d : D), env[i]? = some (some (true, d)) → ∃ a, σ[i]? = some (some (.ref a)) ∧ ¬ B a ∧ H a ≠ none ∧ Dv P w K τ (Av B env σ) false H (.ref a) d
  inj : ∀ (i j : Nat) (a : Addr) (d e : D), env[i]? = some (some (true, d)) → env[j]? = some (some (true, e)) → σ[i]? = some (some (.ref a)) → σ[j]? = some (some (.ref a)) → i = j
  dom : ∀ a, B a → H a ≠ none
  tB : ∀ a, τ.U a → B a
end
section
variable {P : Program} {w : World} {K : PySem.W.Frag} {τ : Tn} {S S' B : Addr → Prop} {H H' : Hp} {s : Twn} {env : Env} {σ : St} {md : Bool}
theorem Dv.weak {v : V} {d : D} (h : Dv P w K τ S true H v d) : Dv P w K τ S md H v d := by
  cases md with
  | true => exact h
  | false =>
    cases d with
    | dat d => exact Dr.i h
    | dK kvs => obtain ⟨a, e, _, r⟩ := h; exact ⟨a, e, fun z => (by cases z), r⟩
    | dT kvs => obtain ⟨a, e, _, r⟩ := h; exact ⟨a, e, fun z => (by cases z), r⟩
    | fn i => exact h
    | town => exact h
    | scr => exact h
theorem Paired.mp {α β : Type} {F G : α → β → Prop} {l₁ : List α} {l₂ : List β} (h : Paired F l₁ l₂) (f : ∀ a b, F a b → G a b) : Paired G l₁ l₂ := L2.Paired.mapP h f
theorem Xt.obj {a : Addr} {o : Obj} (x : Xt τ H H') (n : ¬ τ.T a) (h : H a = some (ObO a o)) : H' a = some (ObO a o) := x.1 _ _ n (fun _ z => by unfold ObO at z; cases z) h
theorem Xt.dT {a : Addr} {kvs : List (NestedKey × PyData)} (x : Xt τ H H') (t : TownR τ H s) (hS : ∀ a, τ.T a → S a) (n : ¬ τ.T a) (h : DTr P w K S H a kvs) : DTr P w K S H' a kvs := by
  obtain ⟨o, es, ep, xs, e, r1, r2, r3, r4, r5, r6, pr⟩ := h
  exact ⟨o, es, ep, xs, x.obj n e, r1, r2, r3, r4, r5, r6, Paired.mp pr fun p q ⟨h1, h2, h3, v, h4, h5⟩ => ⟨h1, h2, x.dr t hS h3, v, h4, x.dr t hS h5⟩⟩
theorem Xt.dK {a : Addr} {kvs : List (Key × PyData)} (x : Xt τ H H') (t : TownR τ H s) (hS : ∀ a, τ.T a → S a) (n : ¬ τ.T a) (h : DKr K S H a kvs) : DKr K S H' a kvs := by
  obtain ⟨vs, e, pr⟩ := h
  exact ⟨vs, x.1 _ _ n (fun _ z => by cases z) e, Paired.mp pr fun p q ⟨h1, h2⟩ => ⟨h1, x.dr t hS h2⟩⟩
theorem Xt.dri {v : V} {d : PyData} (x : Xt τ H H') (t : TownR τ H s) (hS : ∀ a, τ.T a → S a) (h : DrI K S H v d) : DrI K S H' v d := by
  rcases h with h | ⟨a, xs, ds, rfl, rfl, e, q⟩
  · exact .inl (x.dr t hS h)
  · refine .inr ⟨a, xs, ds, rfl, rfl, x.1 _ _ (fun z => ?_) (fun _ z => by cases z) e, x.drs t hS q⟩
    rcases z with rfl | rfl
    · rw [t.1] at e; cases e
    · rw [t.2.1] at e; cases e
theorem Xt.dv {v : V} {d : D} (x : Xt τ H H') (t : TownR τ H s) (hS : ∀ a, τ.T a → S a) (h : Dv P w K τ S md H v d) : Dv P w K τ S md H' v d := by
  cases d with
  | dat d =>
    cases md with
    | true => exact x.dr t hS h
    | false => exact x.dri t hS h
  | dK kvs => obtain ⟨a, e, n, m, r⟩ := h; exact ⟨a, e, n, m, x.dK t hS m r⟩
  | dT kvs => obtain ⟨a, e, n, m, r⟩ := h; exact ⟨a, e, n, m, x.dT t hS m r⟩
  | fn i => exact h
  | town => exact h
  | scr => exact h
theorem DrI.mono (hs : ∀ a, S' a → S a) {v : V} {d : PyData} (h : DrI K S H v d) : DrI K S' H v d := by
  rcases h with h | ⟨a, xs, ds, e1, e2, e, q⟩
  · exact .inl (h.mono hs)
  · exact .inr ⟨a, xs, ds, e1, e2, e, q.mono hs⟩
theorem Dv.mono (hs : ∀ a, S' a → S a) {v : V} {d : D} (h : Dv P w K τ S md H v d) : Dv P w K τ S' md H v d := by
  cases d with
  | dat d =>
    cases md with
    | true => exact Dr.mono hs d v h
    | false => exact DrI.mono hs h
  | dK kvs =>
    obtain ⟨a, e, n, m, vs, h1, pr⟩ := h
    exact ⟨a, e, fun z q => n z (hs a q), m, vs, h1, Paired.mp pr fun p q ⟨h1, h2⟩ => ⟨h1, h2.mono hs⟩⟩
  | dT kvs =>
    obtain ⟨a, e, n, m, o, es, ep, xs, e1, r1, r2, r3, r4, r5, r6, pr⟩ := h
    exact ⟨a, e, fun z q => n z (hs a q), m, o, es, ep, xs, e1, r1, r2, r3, r4, r5, r6, Paired.mp pr fun p q ⟨h1, h2, h3, v, h4, h5⟩ => ⟨h1, h2, h3.mono hs, v, h4, h5.mono hs⟩⟩
  | fn i => exact h
  | town => exact h
  | scr => exact h
/-- a new address may be kept out, too -/
theorem Dv.fresh {p : Addr} (hp : H p = none) {v : V} {d : D} (h : Dv P w K τ S md H v d) : Dv P w K τ (fun a => S a ∨ a = p) md H v d := by
  cases d with
  | dat d =>
    cases md with
    | true => exact Dr.fresh hp d v h
    | false =>
      rcases (show DrI K S H v d from h) with h | ⟨a, xs, ds, e1, e2, e, q⟩
      · exact .inl (h.fresh hp)
      · exact .inr ⟨a, xs, ds, e1, e2, e, q.fresh hp⟩
  | dK kvs =>
    obtain ⟨a, e, n, m, vs, h1, pr⟩ := h
    exact ⟨a, e, fun z q => q.elim (n z) (fun q => by rw [q, hp] at h1; cases h1), m, vs, h1, Paired.mp pr fun p q ⟨h1, h2⟩ => ⟨h1, h2.fresh hp⟩⟩
  | dT kvs =>
    obtain ⟨a, e, n, m, o, es, ep, xs, e1, r1, r2, r3, r4, r5, r6, pr⟩ := h
    exact ⟨a, e, fun z q => q.elim (n z) (fun q => by rw [q, hp] at e1; cases e1), m, o, es, ep, xs, e1, r1, r2, r3, r4, r5, r6, Paired.mp pr fun p q ⟨h1, h2, h3, v, h4, h5⟩ => ⟨h1, h2, h3.fresh hp, v, h4, h5.fresh hp⟩⟩
  | fn i => exact h
  | town => exact h
  | scr => exact h
theorem Rep.tS (R : Rep P w K τ B env σ H) : ∀ a, τ.T a → Av B env σ a := fun a h => .inl (R.tB a (.inl h))
theorem Rep.xt (R : Rep P w K τ B env σ H) (t : TownR τ H s) (x : Xt τ H H') : Rep P w K τ B env σ H' where
  len := R.len
  val := fun i d e => by
    obtain ⟨v, h1, h2⟩ := R.val i d e
    exact ⟨v, h1, x.dv t R.tS h2⟩
  own := fun i d e => by
    obtain ⟨a, h1, h2, h3, h4⟩ := R.own i d e
    exact ⟨a, h1, h2, x.2.1 a h3, x.dv t R.tS h4⟩
  inj := R.inj
  dom := fun a h => x.2.1 a (R.dom a h)
  tB := R.tB
theorem Rep.sdom (R : Rep P w K τ B env σ H) : ∀ a, Av B env σ a → H a ≠ none := fun a h => by
  rcases h with h | ⟨i, d, h1, h2⟩
  · exact R.dom a h
  · obtain ⟨b, e1, _, e2, _⟩ := R.own i d h1
    rw [h2] at e1
    cases e1
    exact e2
end
end BK
set_option Elab.async false
set_option linter.all false
set_option maxRecDepth 100000
set_option maxHeartbeats 1000000
/-! The operations by values. -/
namespace BK
open PySem L2

section
variable {P : Program} {w : World} {K : PySem.W.Frag} {τ : Tn} {S : Addr → Prop} {H H' : Hp} {v : V}
theorem DrI.int {i : Int} (h : DrI K S H v (.int i)) : v = .int i := by
  rcases h with h | ⟨_, _, _, _, e, _⟩
  · cases h; rfl
  · cases e
theorem DrI.str {x : Str} (h : DrI K S H v (.str x)) : v = .str x := by
  rcases h with h | ⟨_, _, _, _, e, _⟩
  · cases h; rfl
  · cases e
theorem DrI.bl {b : Bool} (h : DrI K S H v (.bool b)) : v = .bl b := by
  rcases h with h | ⟨_, _, _, _, e, _⟩
  · cases h; rfl
  · cases e
theorem DrI.non (h : DrI K S H v .none) : v = .non := by
  rcases h with h | ⟨_, _, _, _, e, _⟩
  · cases h; rfl
  · cases e
theorem DrI.tup {ds : List PyData} (h : DrI K S H v (.tuple ds)) : ∃ a xs, v = .ref a ∧ SqT K H a xs ∧ Drs K S H xs ds := by
  rcases h with h | ⟨_, _, _, _, e, _⟩
  · cases h with
    | tup e q => exact ⟨_, _, rfl, e, q⟩
  · cases e
theorem DrI.lst {ds : List PyData} (h : DrI K S H v (.list ds)) : ∃ a xs, v = .ref a ∧ H a = some (.lst xs) ∧ Drs K S H xs ds := by
  rcases h with h | ⟨a, xs, es, rfl, e, q⟩
  · cases h with
    | lst e n q => exact ⟨_, _, rfl, e, q⟩
  · cases e; exact ⟨a, xs, rfl, q⟩
theorem Dv.i {d : PyData} {md : Bool} (h : Dv P w K τ S md H v (.dat d)) : DrI K S H v d := by
  cases md with
  | true => exact .inl h
  | false => exact h
theorem Dv.d {d : PyData} (h : Dv P w K τ S true H v (.dat d)) : Dr K S H v d := h
theorem Dr.newL {a : Addr} {xs : List V} {ds : List PyData} (hS : ∀ a, S a → H a ≠ none) (n : H a = none) (h : Drs K S H xs ds) : Dr K S (upd H a (.lst xs)) (.ref a) (.list ds) :=
  .lst upd_same (fun z => hS _ z n) ((Al.new n).drs h)
theorem Dr.newT {a : Addr} {xs : List V} {ds : List PyData} (n : H a = none) (h : Drs K S H xs ds) : Dr K S (upd H a (.tup xs)) (.ref a) (.tuple ds) :=
  .tup (SqT.of upd_same) ((Al.new n).drs h)
end

/-- an operation of two values -/
def rB (P : Program) (w : World) (K : PySem.W.Frag) (τ : Tn) (g : D → D → Option D) : R2 := fun x y H Q => ∃ (S : Addr → Prop) (dx dy r : D), (∀ a, S a → H a ≠ none) ∧
  Dv P w K τ S false H x dx ∧ Dv P w K τ S false H y dy ∧ g dx dy = some r ∧ ∀ v H', Al H H' → Dv P w K τ S true H' v r → Q v H'
def rP (P : Program) (w : World) (K : PySem.W.Frag) (τ : Tn) (g : D → Option D) : V → Hp → VK → Prop := fun x H Q => ∃ (S : Addr → Prop) (dx r : D), (∀ a, S a → H a ≠ none) ∧
  Dv P w K τ S false H x dx ∧ g dx = some r ∧ ∀ v H', Al H H' → Dv P w K τ S true H' v r → Q v H'

/-- a comparison of two values -/
def rC (P : Program) (w : World) (K : PySem.W.Frag) (τ : Tn) (g : D → D → Option Bool) : R2 := fun x y H Q => ∃ (S : Addr → Prop) (dx dy : D) (r : Bool),
  Dv P w K τ S false H x dx ∧ Dv P w K τ S false H y dy ∧ g dx dy = some r ∧ Q (.bl r) H

section
variable {X : Cx} {τ : Tn}
theorem ob_add : OpR X (binaryOp .Add) (rB X.prog X.w X.K τ opAdd) := by
  intro pins s σ H x y v u Q I rx ry ⟨S, dx, dy, r, hS, hx, hy, hg, q⟩
  unfold opAdd at hg
  split at hg <;> try (cases hg; done)
  · cases hg
    obtain rfl := hx.i.int
    obtain rfl := hy.i.int
    exact op_add pins s σ H _ _ v u Q I rx ry ⟨_, _, rfl, rfl, q _ _ (Al.refl H) (.int _)⟩
  · rename_i a b
    obtain ⟨hl, hg⟩ := Option.ite_none_right_eq_some.mp hg
    cases hg
    obtain rfl := hx.i.str
    obtain rfl := hy.i.str
    exact op_add_str pins s σ H _ _ v u Q I rx ry ⟨_, _, rfl, rfl, hl, q _ _ (Al.refl H) (.str _)⟩
  · rename_i a b
    obtain ⟨hl, hg⟩ := Option.ite_none_right_eq_some.mp hg
    cases hg
    obtain ⟨p1, xs, rfl, s1, d1⟩ := hx.i.tup
    obtain ⟨p2, ys, rfl, s2, d2⟩ := hy.i.tup
    refine op_catA pins s σ H _ _ v u Q I rx ry ⟨p1, p2, xs, ys, rfl, rfl, s1, s2, by rw [d1.length, d2.length]; exact hl, fun e => ?_, fun e1 e => ?_, fun e1 e2 p np => ?_⟩
    · subst e
      cases d1
      exact q _ _ (Al.refl H) (.tup s2 d2)
    · subst e
      cases d2
      refine q _ _ (Al.refl H) ?_
      rw [List.append_nil]
      exact .tup s1 d1
    · exact q _ _ (Al.new np) (Dr.newT np (d1.append d2))
  · rename_i a b
    obtain ⟨hl, hg⟩ := Option.ite_none_right_eq_some.mp hg
    cases hg
    obtain ⟨p1, xs, rfl, s1, d1⟩ := hx.i.lst
    obtain ⟨p2, ys, rfl, s2, d2⟩ := hy.i.lst
    exact op_cat pins s σ H _ _ v u Q I rx ry ⟨p1, p2, xs, ys, rfl, rfl, s1, s2, by rw [d1.length, d2.length]; exact hl, fun p np => q _ _ (Al.new np) (Dr.newL hS np (d1.append d2))⟩
theorem ob_sub : OpR X (binaryOp .Sub) (rB X.prog X.w X.K τ opSub) := by
  intro pins s σ H x y v u Q I rx ry ⟨S, dx, dy, r, hS, hx, hy, hg, q⟩
  unfold opSub at hg
  split at hg <;> try (cases hg; done)
  cases hg
  obtain rfl := hx.i.int
  obtain rfl := hy.i.int
  exact op_sub pins s σ H _ _ v u Q I rx ry ⟨_, _, rfl, rfl, q _ _ (Al.refl H) (.int _)⟩
theorem ob_mod : OpR X (binaryOp .Mod) (rB X.prog X.w X.K τ opMod) := by
  intro pins s σ H x y v u Q I rx ry ⟨S, dx, dy, r, hS, hx, hy, hg, q⟩
  unfold opMod at hg
  split at hg <;> try (cases hg; done)
  obtain ⟨hl, hg⟩ := Option.ite_none_right_eq_some.mp hg
  cases hg
  obtain rfl := hx.i.int
  obtain rfl := hy.i.int
  exact op_mod pins s σ H _ _ v u Q I rx ry ⟨_, _, rfl, rfl, hl, q _ _ (Al.refl H) (.int _)⟩
theorem ob_fdiv : OpR X (binaryOp .FloorDiv) (rB X.prog X.w X.K τ opFdiv) := by
  intro pins s σ H x y v u Q I rx ry ⟨S, dx, dy, r, hS, hx, hy, hg, q⟩
  unfold opFdiv at hg
  split at hg <;> try (cases hg; done)
  obtain ⟨hl, hg⟩ := Option.ite_none_right_eq_some.mp hg
  cases hg
  obtain rfl := hx.i.int
  obtain rfl := hy.i.int
  exact op_fdiv pins s σ H _ _ v u Q I rx ry ⟨_, _, rfl, rfl, hl, q _ _ (Al.refl H) (.int _)⟩

/-- room on the stack; nothing is being handled -/
structure Gd (X : Cx) : Prop where
  calm : X.calm = true
  un : X.A.units + 64 < cLine
  nd : X.N.Nodup
theorem Gd.u1 {X : Cx} (g : Gd X) : X.A.units + 1 < cLine := by have := g.un; omega
mutual
theorem Dr.plain {K : PySem.W.Frag} {S : Addr → Prop} {H : Hp} : ∀ (d : PyData) (v : V), Dr K S H v d → d.plain = true
  | .none, _, _ => rfl
  | .bool _, _, _ => rfl
  | .int _, _, _ => rfl
  | .str _, _, _ => rfl
  | .list ds, _, h => by
    cases h with
    | lst _ _ q => exact Drs.plain ds _ q
  | .tuple ds, _, h => by
    cases h with
    | tup _ q => exact Drs.plain ds _ q
  | .dict _, _, h => by cases h
theorem Drs.plain {K : PySem.W.Frag} {S : Addr → Prop} {H : Hp} : ∀ (ds : List PyData) (vs : List V), Drs K S H vs ds → PyData.plainAll ds = true
  | [], _, _ => rfl
  | d :: ds, _, h => by
    cases h with
    | cons h1 h2 =>
      show (d.plain && PyData.plainAll ds) = true
      rw [Dr.plain d _ h1, Drs.plain ds _ h2]
      rfl
end
theorem DrI.plain {K : PySem.W.Frag} {S : Addr → Prop} {H : Hp} {v : V} {d : PyData} (h : DrI K S H v d) : d.plain = true := by
  rcases h with h | ⟨a, xs, ds, rfl, rfl, e, q⟩
  · exact h.plain
  · exact q.plain
section
variable {τ : Tn}
theorem DrI.reads {pins : List (Addr × Obj)} {s : Shared} {σ : St} {H : Hp} {S : Addr → Prop} {v : V} {u : Value} {d : PyData} (I : Inv X pins σ H s) (h : DrI X.K S H v d) (r : RelV v u) : ∃ as, Reads s.heap u d as := Dp.reads I d v u h.dp r
theorem ok_le {d : PyData} (h : okD d = true) : d.depth ≤ 60 := of_decide_eq_true h
theorem oc_eq (g : Gd X) : OpR X (compareOp .Eq) (rC X.prog X.w X.K τ opEq) := by
  intro pins s σ H x y v u Q I rx ry ⟨S, dx, dy, r, hx, hy, hg, q⟩
  unfold opEq at hg
  split at hg <;> try (cases hg; done)
  obtain ⟨hok, hg⟩ := Option.ite_none_right_eq_some.mp hg
  cases hg
  rw [Bool.and_eq_true] at hok
  have hu := g.un
  have ha := ok_le hok.1
  have hb := ok_le hok.2
  obtain ⟨as, r1⟩ := hx.i.reads I rx
  obtain ⟨bs, r2⟩ := hy.i.reads I ry
  exact SeqAt.eq_plain r1 r2 hx.i.plain hy.i.plain (by omega) ⟨.bl _, H, I, rfl, q⟩
theorem oc_ne (g : Gd X) : OpR X (compareOp .NotEq) (rC X.prog X.w X.K τ fun a b => (opEq a b).map (!·)) := by
  intro pins s σ H x y v u Q I rx ry ⟨S, dx, dy, r, hx, hy, hg, q⟩
  simp only [Option.map_eq_some_iff] at hg
  obtain ⟨r, hg, rfl⟩ := hg
  unfold opEq at hg
  split at hg <;> try (cases hg; done)
  obtain ⟨hok, hg⟩ := Option.ite_none_right_eq_some.mp hg
  cases hg
  rw [Bool.and_eq_true] at hok
  have hu := g.un
  have ha := ok_le hok.1
  have hb := ok_le hok.2
  obtain ⟨as, r1⟩ := hx.i.reads I rx
  obtain ⟨bs, r2⟩ := hy.i.reads I ry
  exact SeqAt.ne_plain r1 r2 hx.i.plain hy.i.plain (by omega) ⟨.bl _, H, I, rfl, q⟩
theorem oc_lt (g : Gd X) : OpR X (compareOp .Lt) (rC X.prog X.w X.K τ opLt) := by
  intro pins s σ H x y v u Q I rx ry ⟨S, dx, dy, r, hx, hy, hg, q⟩
  unfold opLt at hg
  split at hg <;> try (cases hg; done)
  · cases hg
    obtain rfl := hx.i.int
    obtain rfl := hy.i.int
    exact op_lt pins s σ H _ _ v u Q I rx ry ⟨_, _, rfl, rfl, q⟩
  · obtain ⟨hok, hg⟩ := Option.ite_none_right_eq_some.mp hg
    cases hg
    unfold cmpOk at hok
    simp only [Bool.and_eq_true] at hok
    have hu := g.un
    have ha := ok_le hok.1.2
    have hb := ok_le hok.2
    obtain ⟨as, r1⟩ := hx.i.reads I rx
    obtain ⟨bs, r2⟩ := hy.i.reads I ry
    exact W.lt_data r1 r2 hok.1.1 (by simp) (by omega) ⟨.bl _, H, I, rfl, q⟩
theorem oc_le (g : Gd X) : OpR X (compareOp .LtE) (rC X.prog X.w X.K τ opLe) := by
  intro pins s σ H x y v u Q I rx ry ⟨S, dx, dy, r, hx, hy, hg, q⟩
  unfold opLe at hg
  split at hg <;> try (cases hg; done)
  · cases hg
    obtain rfl := hx.i.int
    obtain rfl := hy.i.int
    exact op_le pins s σ H _ _ v u Q I rx ry ⟨_, _, rfl, rfl, q⟩
  · obtain ⟨hok, hg⟩ := Option.ite_none_right_eq_some.mp hg
    cases hg
    unfold cmpOk at hok
    simp only [Bool.and_eq_true] at hok
    have hu := g.un
    have ha := ok_le hok.1.2
    have hb := ok_le hok.2
    obtain ⟨as, r1⟩ := hx.i.reads I rx
    obtain ⟨bs, r2⟩ := hy.i.reads I ry
    exact W.le_data r1 r2 hok.1.1 (by simp) (by omega) ⟨.bl _, H, I, rfl, q⟩
theorem oc_gt : OpR X (compareOp .Gt) (rC X.prog X.w X.K τ opGt) := by
  intro pins s σ H x y v u Q I rx ry ⟨S, dx, dy, r, hx, hy, hg, q⟩
  unfold opGt at hg
  split at hg <;> try (cases hg; done)
  cases hg
  obtain rfl := hx.i.int
  obtain rfl := hy.i.int
  exact op_gt pins s σ H _ _ v u Q I rx ry ⟨_, _, rfl, rfl, q⟩
theorem oc_ge : OpR X (compareOp .GtE) (rC X.prog X.w X.K τ opGe) := by
  intro pins s σ H x y v u Q I rx ry ⟨S, dx, dy, r, hx, hy, hg, q⟩
  unfold opGe at hg
  split at hg <;> try (cases hg; done)
  cases hg
  obtain rfl := hx.i.int
  obtain rfl := hy.i.int
  exact op_ge pins s σ H _ _ v u Q I rx ry ⟨_, _, rfl, rfl, q⟩

/-! ### dicts with tuple keys -/
theorem Drs.nested {pins : List (Addr × Obj)} {s : Shared} {σ : St} {H : Hp} {S : Addr → Prop} (I : Inv X pins σ H s) : True := True.intro
mutual
theorem nested_of {pins : List (Addr × Obj)} {s : Shared} {σ : St} {H : Hp} {S : Addr → Prop} (I : Inv X pins σ H s) : ∀ (d : PyData) (k : NestedKey) (v : V) (u : Value), nk d = some k → Dr X.K S H v d → RelV v u → NestedIs s.heap k u
  | .none, _, _, _, e, h, r => by
    cases h
    cases r
    cases e
    exact .none
  | .bool _, _, _, _, e, _, _ => by cases e
  | .int _, _, _, _, e, h, r => by
    cases h
    obtain ⟨t, rfl⟩ := r
    cases e
    exact .int _ _
  | .str _, _, _, _, e, h, r => by
    cases h
    obtain ⟨t, rfl⟩ := r
    cases e
    exact .text _ _
  | .list _, _, _, _, e, _, _ => by cases e
  | .dict _, _, _, _, e, _, _ => by cases e
  | .tuple ds, k, _, _, e, h, r => by
    unfold nk at e
    cases e' : nks ds with
    | none => rw [e'] at e; cases e
    | some ks =>
      rw [e'] at e
      cases e
      cases h with
      | tup hs hd =>
        cases r
        obtain ⟨its, rv, ⟨o, ho, hc, n, hdt⟩, _⟩ := I.tuple hs
        exact .tup ho hc hdt (by simpa using nested_all I ds ks _ _ e' hd rv)
theorem nested_all {pins : List (Addr × Obj)} {s : Shared} {σ : St} {H : Hp} {S : Addr → Prop} (I : Inv X pins σ H s) : ∀ (ds : List PyData) (ks : List NestedKey) (vs : List V) (us : List Value), nks ds = some ks → Drs X.K S H vs ds → Vals vs us → NestedAll s.heap ks us
  | [], _, _, _, e, h, r => by
    cases h
    cases r
    cases e
    exact .nil
  | d :: ds, _, _, _, e, h, r => by
    unfold nks at e
    cases e1 : nk d with
    | none => rw [e1] at e; cases e
    | some k =>
      cases e2 : nks ds with
      | none => rw [e1, e2] at e; cases e
      | some ks =>
        rw [e1, e2] at e
        cases e
        cases h with
        | cons h1 h2 =>
          cases r with
          | cons r1 r2 => exact .cons (nested_of I d k _ _ e1 h1 r1) (nested_all I ds ks _ _ e2 h2 r2)
end
theorem nkey_of {d : PyData} {k : NestedKey} (h : nkey d = some k) : (∃ ds, d = .tuple ds) ∧ nk d = some k ∧ k.depth ≤ 8 := by
  unfold nkey at h
  split at h
  · rename_i ds
    cases e : nk (.tuple ds) with
    | none => rw [e] at h; cases h
    | some k' =>
      rw [e] at h
      simp only [Option.bind_some] at h
      split at h
      · rename_i hk
        cases h
        exact ⟨⟨ds, rfl⟩, rfl, hk⟩
      · cases h
  · cases h
mutual
theorem nk_data : ∀ (d : PyData) (k : NestedKey), nk d = some k → k.data = d
  | .none, _, e => by cases e; rfl
  | .bool _, _, e => by cases e
  | .int _, _, e => by cases e; rfl
  | .str _, _, e => by cases e; rfl
  | .list _, _, e => by cases e
  | .dict _, _, e => by cases e
  | .tuple ds, k, e => by
    unfold nk at e
    cases e' : nks ds with
    | none => rw [e'] at e; cases e
    | some ks =>
      rw [e'] at e
      cases e
      show PyData.tuple (NestedKey.datas ks) = _
      rw [nks_datas ds ks e']
theorem nks_datas : ∀ (ds : List PyData) (ks : List NestedKey), nks ds = some ks → NestedKey.datas ks = ds
  | [], _, e => by cases e; rfl
  | d :: ds, _, e => by
    unfold nks at e
    cases e1 : nk d with
    | none => rw [e1] at e; cases e
    | some k =>
      cases e2 : nks ds with
      | none => rw [e1, e2] at e; cases e
      | some ks =>
        rw [e1, e2] at e
        cases e
        show NestedKey.data k :: NestedKey.datas ks = _
        rw [nk_data d k e1, nks_datas ds ks e2]
end
mutual
theorem data_nk : ∀ (k : NestedKey), nk k.data = some k
  | .none => rfl
  | .num _ => rfl
  | .text _ => rfl
  | .tup ks => by
    show nk (.tuple (NestedKey.datas ks)) = _
    unfold nk
    rw [datas_nks ks]
    rfl
theorem datas_nks : ∀ (ks : List NestedKey), nks (NestedKey.datas ks) = some ks
  | [] => rfl
  | k :: ks => by
    show nks (NestedKey.data k :: NestedKey.datas ks) = _
    unfold nks
    rw [data_nk k, datas_nks ks]
end
/-- the dict at a, as the library tells it -/
theorem DTr.of {pins : List (Addr × Obj)} {s : Shared} {σ : St} {H : Hp} {S : Addr → Prop} {a : Addr} {kvs : List (NestedKey × PyData)} (I : Inv X pins σ H s) (h : DTr X.prog X.w X.K S H a kvs) :
    ∃ xs : List (NestedKey × Addr × Value), s.heap.DictOfH (nestedKind X.prog X.w) a xs ∧ (a == sysModules) = false ∧ xs.length ≤ sizeLine ∧ Paired (RowR X.K S H) kvs xs := by
  obtain ⟨o, es, ep, xs, e, r1, r2, r3, r4, r5, r6, pr⟩ := h
  have ho : s.heap.get? a = some o := (I.hok a _ e).1
  refine ⟨xs, ⟨o, es, ep, ho, r2, r3, r4, ?_, r5⟩, r1, r6, pr⟩
  clear r4 r5 r6
  induction pr with
  | nil => intro x hx; cases hx
  | cons h t ih =>
    intro x hx
    rcases List.mem_cons.mp hx with rfl | hx
    · obtain ⟨h1, h2, h3, _⟩ := h
      exact ⟨nested_of I _ _ _ _ (data_nk _) h3 rfl, h2⟩
    · exact ih x hx
theorem look_row {S : Addr → Prop} {H : Hp} {K : PySem.W.Frag} {kvs : List (NestedKey × PyData)} {xs : List (NestedKey × Addr × Value)} (pr : Paired (RowR K S H) kvs xs) (k : NestedKey) :
    (∀ d, lookT kvs k = some d → ∃ b u v, atKey xs k = some (b, u) ∧ RelV v u ∧ Dr K S H v d) ∧ (lookT kvs k = none → atKey xs k = none) := by
  induction pr with
  | nil => exact ⟨fun d e => (by cases e), fun _ => rfl⟩
  | @cons p x ps xs h t ih =>
    obtain ⟨h1, h2, h3, v, h4, h5⟩ := h
    unfold lookT atKey
    rw [List.find?_cons, List.find?_cons, ← h1]
    by_cases hk : p.1 = k
    · rw [decide_eq_true hk]
      refine ⟨fun d e => ?_, fun e => by cases e⟩
      cases e
      exact ⟨_, _, v, rfl, h4, h5⟩
    · rw [decide_eq_false hk]
      exact ih
theorem look_some {S : Addr → Prop} {H : Hp} {K : PySem.W.Frag} {kvs : List (NestedKey × PyData)} {xs : List (NestedKey × Addr × Value)} (pr : Paired (RowR K S H) kvs xs) (k : NestedKey) : (atKey xs k).isSome = (lookT kvs k).isSome := by
  obtain ⟨h1, h2⟩ := look_row pr k
  cases e : lookT kvs k with
  | none =>
    rw [h2 e]
    rfl
  | some d =>
    obtain ⟨b, u, v, e1, _⟩ := h1 d e
    rw [e1]
    rfl
theorem room_nested (g : Gd X) : (nestedKind X.prog X.w).room X.A.in1 := by
  show X.A.units + 1 + 8 < cLine
  have := g.un
  omega
theorem oc_in (g : Gd X) : OpR X (compareOp .In) (rC X.prog X.w X.K τ opIn) := by
  intro pins s σ H x y v u Q I rx ry ⟨S, dx, dy, r, hx, hy, hg, q⟩
  have hu := g.un
  unfold opIn at hg
  split at hg <;> try (cases hg; done)
  · obtain ⟨hok, hg⟩ := Option.ite_none_right_eq_some.mp hg
    cases hg
    rw [Bool.and_eq_true] at hok
    have ha := ok_le hok.1
    obtain ⟨as, r1⟩ := hx.i.reads I rx
    obtain ⟨bs, r2⟩ := hy.i.reads I ry
    exact SeqAt.in_list_data r2 r1 hy.i.plain hx.i.plain (by omega) ⟨.bl _, H, I, rfl, q⟩
  · obtain ⟨hok, hg⟩ := Option.ite_none_right_eq_some.mp hg
    cases hg
    rw [Bool.and_eq_true] at hok
    have ha := ok_le hok.1
    obtain ⟨as, r1⟩ := hx.i.reads I rx
    obtain ⟨bs, r2⟩ := hy.i.reads I ry
    exact SeqAt.in_tuple_data r2 r1 hy.i.plain hx.i.plain (by omega) ⟨.bl _, H, I, rfl, q⟩
  · rename_i d kvs
    simp only [Option.map_eq_some_iff] at hg
    obtain ⟨k, hk, rfl⟩ := hg
    obtain ⟨a, rfl, _, _, hd⟩ := hy
    obtain ⟨⟨ds, rfl⟩, e1, e2⟩ := nkey_of hk
    obtain ⟨b, ys, rfl, hs, hdd⟩ := hx.i.tup
    cases rx
    cases ry
    obtain ⟨xs, hm, hne, _, pr⟩ := hd.of I
    exact wpAny_in_heap (knd := nestedKind X.prog X.w) (room_nested g) (k := k) ⟨nested_of I (.tuple ds) k _ _ e1 (.tup hs hdd) rfl, e2⟩ hne hm ⟨.bl _, H, I.tok _, rfl, by rw [look_some pr]; exact q⟩
end
end
end BK
set_option Elab.async false
set_option linter.all false
set_option maxRecDepth 100000
set_option maxHeartbeats 1000000
/-! The built-in calls by values. -/
namespace BK
open PySem L2
/-- a call of one value -/
def rQ (P : Program) (w : World) (K : PySem.W.Frag) (τ : Tn) (g : D → Option D) : List V → Hp → VK → Prop := fun vs H Q => ∃ x, vs = [x] ∧ rP P w K τ g x H Q
section
variable {X : Cx} {τ : Tn}
theorem oc_notin (g : Gd X) : OpR X (compareOp .NotIn) (rC X.prog X.w X.K τ fun a b => (opIn a b).map (!·)) := by
  intro pins s σ H x y v u Q I rx ry ⟨S, dx, dy, r, hx, hy, hg, q⟩
  simp only [Option.map_eq_some_iff] at hg
  obtain ⟨r, hg, rfl⟩ := hg
  have hu := g.un
  unfold opIn at hg
  split at hg <;> try (cases hg; done)
  · obtain ⟨hok, hg⟩ := Option.ite_none_right_eq_some.mp hg
    cases hg
    rw [Bool.and_eq_true] at hok
    have ha := ok_le hok.1
    obtain ⟨as, r1⟩ := hx.i.reads I rx
    obtain ⟨bs, r2⟩ := hy.i.reads I ry
    exact SeqAt.notIn_list_data r2 r1 hy.i.plain hx.i.plain (by omega) ⟨.bl _, H, I, rfl, q⟩
  · obtain ⟨hok, hg⟩ := Option.ite_none_right_eq_some.mp hg
    cases hg
    rw [Bool.and_eq_true] at hok
    have ha := ok_le hok.1
    obtain ⟨as, r1⟩ := hx.i.reads I rx
    obtain ⟨bs, r2⟩ := hy.i.reads I ry
    exact SeqAt.notIn_tuple_data r2 r1 hy.i.plain hx.i.plain (by omega) ⟨.bl _, H, I, rfl, q⟩
  · rename_i d kvs
    simp only [Option.map_eq_some_iff] at hg
    obtain ⟨k, hk, rfl⟩ := hg
    obtain ⟨a, rfl, _, _, hd⟩ := hy
    obtain ⟨⟨ds, rfl⟩, e1, e2⟩ := nkey_of hk
    obtain ⟨b, ys, rfl, hs, hdd⟩ := hx.i.tup
    cases rx
    cases ry
    obtain ⟨xs, hm, hne, _, pr⟩ := hd.of I
    refine notIn_keyed (knd := nestedKind X.prog X.w) (room_nested g) (k := k) ⟨nested_of I (.tuple ds) k _ _ e1 (.tup hs hdd) rfl, e2⟩ hne ⟨xs, hm, rfl⟩ ⟨.bl _, H, I.tok _, rfl, ?_⟩
    rw [valueAt_pairsH, Option.isSome_map, look_some pr]
    exact q
/-- an item of what has its type's own __getitem__ -/
theorem tail_of {value slice : Expr} {o i : Value} {T id : String} {M : Model} {A : Around} {E : Value → Shared → Prop} {s : Shared} {prog : Program} {w : World} {Q : Value → Shared → Prop} (hM : M = model prog w) (hT : s.TypeIs o T)
    (hl : typeLookup (.type T) "__getitem__" = pure (some (.builtin id))) (h : wpAny M A (getItem o i) Q E s) (hs : subscripted slice false o i = operate [o, i] (getItem o i)) : wpAny M A (PyProof.Rows.subscriptTail value slice o i) Q E s := by
  subst hM
  have key : wpAny (model prog w) A (subscripted slice false o i) (fun r s' => wpAny (model prog w) A (letTemporaryGo value o r >>= fun _ => pure r) Q E s') E s := by
    rw [hs]
    exact wpAny_operating (wpAny_mono h (fun r s' z => wpAny_bind (wpAny_letTemporaryGo (wpAny_pure z))) fun _ _ z => z)
  unfold PyProof.Rows.subscriptTail
  rw [getitemInPython_of_ne hT.not_modules]
  refine wpAny_bind (wpAny_bind (wpAny_specialOf hT hl ?_))
  first
    | exact wpAny_bind key
    | exact wpAny_pure (wpAny_bind key)
    | exact wpAny_bind (wpAny_pure (wpAny_bind key))
theorem Paired.atI {K : PySem.W.Frag} {S : Addr → Prop} {H : Hp} {vs : List V} {ds : List PyData} {i : Int} {d : PyData} (h : Drs K S H vs ds) (e : atI ds i = some d) : ∃ v, atI vs i = some v ∧ Dr K S H v d := by
  unfold L2.atI at e ⊢
  rw [h.length]
  cases q : ixN ds.length i with
  | none => rw [q] at e; cases e
  | some j =>
    rw [q] at e
    exact h.get e
theorem kv_of {d : PyData} {k : Key} {K : PySem.W.Frag} {S : Addr → Prop} {H : Hp} {v : V} (h : kkey d = some k) (r : DrI K S H v d) : v = kV k := by
  unfold kkey at h
  split at h
  · cases h; rw [r.int]; rfl
  · cases h; rw [r.str]; rfl
  · cases h
theorem look_k {K : PySem.W.Frag} {S : Addr → Prop} {H : Hp} {kvs : List (Key × PyData)} {vs : List (Key × V)} (pr : Paired (fun (p : Key × PyData) (q : Key × V) => p.1 = q.1 ∧ Dr K S H q.2 p.2) kvs vs) {k : Key} {d : PyData} (e : lookT kvs k = some d) : ∃ v, valV vs k = some v ∧ Dr K S H v d := by
  induction pr with
  | nil => cases e
  | @cons p x ps xs h t ih =>
    unfold lookT at e
    unfold valV
    rw [List.find?_cons] at e ⊢
    rw [← h.1]
    by_cases hk : p.1 = k
    · rw [decide_eq_true hk] at e ⊢
      cases e
      exact ⟨_, rfl, h.2⟩
    · rw [decide_eq_false hk] at e ⊢
      exact ih e
theorem ix_all (g : Gd X) : IxR X (rB X.prog X.w X.K τ opIdx) := by
  intro value slice pins s σ H x y v u Q I rx ry ⟨S, dx, dy, r, hS, hx, hy, hg, q⟩ hsub
  unfold opIdx at hg
  split at hg <;> try (cases hg; done)
  · simp only [Option.map_eq_some_iff] at hg
    obtain ⟨d, e, rfl⟩ := hg
    obtain rfl := hy.i.int
    obtain ⟨p, xs, rfl, hp, hd⟩ := hx.i.lst
    obtain ⟨w', e', hw⟩ := Paired.atI hd e
    exact ix_list value slice pins s σ H _ _ v u Q I rx ry ⟨p, xs, _, w', rfl, rfl, SqL.of hp, e', q _ _ (Al.refl H) hw⟩ hsub
  · simp only [Option.map_eq_some_iff] at hg
    obtain ⟨d, e, rfl⟩ := hg
    obtain rfl := hy.i.int
    obtain ⟨p, xs, rfl, hp, hd⟩ := hx.i.tup
    obtain ⟨w', e', hw⟩ := Paired.atI hd e
    exact ix_tup value slice pins s σ H _ _ v u Q I rx ry ⟨p, xs, _, w', rfl, rfl, hp, e', q _ _ (Al.refl H) hw⟩ hsub
  · rename_i z i
    obtain ⟨hl, hg⟩ := Option.ite_none_right_eq_some.mp hg
    simp only [Option.map_eq_some_iff] at hg
    obtain ⟨c, e, rfl⟩ := hg
    obtain rfl := hy.i.int
    obtain rfl := hx.i.str
    exact ix_str value slice pins s σ H _ _ v u Q I rx ry ⟨z, i, c, rfl, rfl, hl, e, q _ _ (Al.refl H) (.str _)⟩ hsub
  · rename_i kvs d
    simp only [Option.bind_eq_some_iff, Option.map_eq_some_iff] at hg
    obtain ⟨k, hk, d', e, rfl⟩ := hg
    obtain ⟨a, rfl, _, _, vs, ha, pr⟩ := hx
    obtain ⟨w', e', hw⟩ := look_k pr e
    obtain rfl := kv_of hk hy.i
    cases rx
    have dg : DGet H a (kV k) (some w') := by
      rw [← e']
      exact DGet.k ha
    obtain ⟨hT⟩ : Nonempty (s.TypeIs (.ref a) "dict") := ⟨dict_typeIs I dg⟩
    refine tail_of rfl hT PySem.F.slot_dict_getitem.lookup (d_getItem g.u1 I dg ry fun w2 s2 I2 r2 => ⟨w', H, I2, r2, q _ _ (Al.refl H) hw⟩) hsub
  · rename_i kvs d
    simp only [Option.bind_eq_some_iff, Option.map_eq_some_iff] at hg
    obtain ⟨k, hk, d', e, rfl⟩ := hg
    obtain ⟨a, rfl, _, _, hd⟩ := hx
    obtain ⟨⟨ds, rfl⟩, e1, e2⟩ := nkey_of hk
    obtain ⟨b, ys, rfl, hs, hdd⟩ := hy.i.tup
    cases rx
    cases ry
    obtain ⟨xs, hm, hne, _, pr⟩ := hd.of I
    obtain ⟨b', u', w', e', r', hw⟩ := (look_row pr k).1 d' e
    refine tail_of rfl hm.typeIs PySem.F.slot_dict_getitem.lookup (wpAny_getItem_heap (knd := nestedKind X.prog X.w) (room_nested g) (k := k) ⟨nested_of I (.tuple ds) k _ _ e1 (.tup hs hdd) rfl, e2⟩ hm e' ⟨w', H, I.tok _, r', q _ _ (Al.refl H) hw⟩) hsub
end
end BK
set_option Elab.async false
set_option linter.all false
set_option maxRecDepth 100000
set_option maxHeartbeats 4000000
/-! The order of data is one; sorting by insertion. -/
namespace BK
open PySem PySem.Spec PyProof.Rows L2
/-! ### the order is one -/
mutual
theorem nk_eqv : ∀ (a b : PyData), (nk a).isSome = true → (nk b).isSome = true → PyData.eqv a b = true → a = b
  | .none, b, _, h, e => by cases b <;> simp_all [PyData.eqv, nk]
  | .int i, b, _, h, e => by cases b <;> simp_all [PyData.eqv, nk]
  | .str x, b, _, h, e => by cases b <;> simp_all [PyData.eqv, nk]
  | .tuple ds, b, g, h, e => by
    cases b with
    | tuple es =>
      rw [nks_eqv ds es (by simpa [nk] using g) (by simpa [nk] using h) (by simpa [PyData.eqv] using e)]
    | _ => simp_all [PyData.eqv, nk]
  | .bool _, b, g, h, e => by cases g
  | .list _, b, g, h, e => by cases g
  | .dict _, b, g, h, e => by cases g
theorem nks_eqv : ∀ (as bs : List PyData), (nks as).isSome = true → (nks bs).isSome = true → PyData.eqvAll as bs = true → as = bs
  | [], [], _, _, _ => rfl
  | [], _ :: _, _, _, e => by simp [PyData.eqvAll] at e
  | _ :: _, [], _, _, e => by simp [PyData.eqvAll] at e
  | a :: as, b :: bs, g, h, e => by
    simp only [PyData.eqvAll, Bool.and_eq_true] at e
    have key : ∀ (a : PyData) (as : List PyData), (nks (a :: as)).isSome = true → (nk a).isSome = true ∧ (nks as).isSome = true := fun a as g => by
      unfold nks at g
      cases e1 : nk a with
      | none => rw [e1] at g; cases g
      | some k =>
        cases e2 : nks as with
        | none => rw [e1, e2] at g; cases g
        | some ks => exact ⟨rfl, rfl⟩
    obtain ⟨g1, g2⟩ := key a as g
    obtain ⟨h1, h2⟩ := key b bs h
    rw [nk_eqv a b g1 h1 e.1, nks_eqv as bs g2 h2 e.2]
end
theorem le_trans' (a b c : PyData) (h1 : W.dataLe false id a b = true) (h2 : W.dataLe false id b c = true) : W.dataLe false id a c = true := by
  rw [W.dataLe_eq] at *
  simp only [id, cond_false, Bool.not_eq_true', W.dataLt] at *
  cases e : PyProof.Rows.lexLt itemOrd (W.keyToks c) (W.keyToks a) with
  | false => rfl
  | true =>
    rcases lex_negTrans _ (W.keyToks b) _ e with z | z
    · rw [z] at h2; cases h2
    · rw [z] at h1; cases h1
theorem le_total' (a b : PyData) : (W.dataLe false id a b || W.dataLe false id b a) = true := by
  rw [W.dataLe_eq]
  simp only [id, cond_false, Bool.or_eq_true, Bool.not_eq_true', W.dataLt]
  cases e : PyProof.Rows.lexLt itemOrd (W.keyToks b) (W.keyToks a) with
  | false => exact .inl rfl
  | true =>
    refine .inr ?_
    cases e2 : PyProof.Rows.lexLt itemOrd (W.keyToks a) (W.keyToks b) with
    | false => rfl
    | true =>
      have := lex_trans _ _ _ e e2
      rw [lex_irrefl] at this
      cases this
theorem le_anti {a b : PyData} (hk : W.alike a b = true) (ha : (nk a).isSome = true) (hb : (nk b).isSome = true) (h1 : W.dataLe false id a b = true) (h2 : W.dataLe false id b a = true) : a = b := by
  rw [W.dataLe_eq] at *
  simp only [id, cond_false, Bool.not_eq_true', W.dataLt] at *
  have e := lex_total _ _ h2 h1
  refine nk_eqv a b ha hb ?_
  cases q : PyData.eqv a b with
  | true => rfl
  | false =>
    have := (W.toks_eqv a b hk).2 q [] [.inl 0]
    rw [e, lex_irrefl, List.append_nil, ← List.append_nil (W.keyToks b), List.append_assoc, W.lex_pre] at this
    cases this
/-! ### sorted, by insertion -/
section
variable {α : Type} (le : α → α → Bool)
theorem insL_perm (x : α) : ∀ l : List α, (insL le x l).Perm (x :: l)
  | [] => .refl _
  | y :: ys => by
    unfold insL
    split
    · exact .refl _
    · exact ((insL_perm x ys).cons y).trans (.swap x y ys)
theorem isortL_perm : ∀ l : List α, (isortL le l).Perm l
  | [] => .refl _
  | x :: xs => (insL_perm le x _).trans ((isortL_perm xs).cons x)
variable {le}
theorem insL_sorted (ht : ∀ a b c, le a b = true → le b c = true → le a c = true) (hl : ∀ a b, le a b = false → le b a = true) (x : α) : ∀ l : List α, l.Pairwise (fun a b => le a b = true) → (insL le x l).Pairwise fun a b => le a b = true
  | [], _ => List.pairwise_singleton _ _
  | y :: ys, h => by
    unfold insL
    obtain ⟨h1, h2⟩ := List.pairwise_cons.mp h
    split
    · rename_i hx
      refine List.pairwise_cons.mpr ⟨fun z hz => ?_, h⟩
      rcases List.mem_cons.mp hz with rfl | hz
      · exact hx
      · exact ht _ _ _ hx (h1 z hz)
    · rename_i hx
      refine List.pairwise_cons.mpr ⟨fun z hz => ?_, insL_sorted ht hl x ys h2⟩
      rcases List.mem_cons.mp ((insL_perm le x ys).mem_iff.mp hz) with rfl | hz
      · exact hl _ _ (by simpa using hx)
      · exact h1 z hz
theorem isortL_sorted (ht : ∀ a b c, le a b = true → le b c = true → le a c = true) (hl : ∀ a b, le a b = false → le b a = true) : ∀ l : List α, (isortL le l).Pairwise fun a b => le a b = true
  | [] => .nil
  | x :: xs => insL_sorted ht hl x _ (isortL_sorted ht hl xs)
end
theorem dle_eq : W.dataLe false id = dle := by
  rw [W.dataLe_eq]
  rfl
theorem dle_trans (a b c : PyData) (h1 : dle a b = true) (h2 : dle b c = true) : dle a c = true := by
  rw [← dle_eq] at *
  exact le_trans' a b c h1 h2
theorem dle_total (a b : PyData) (h : dle a b = false) : dle b a = true := by
  have := le_total' a b
  rw [dle_eq] at this
  rw [h] at this
  simpa using this
theorem sort_uniq {ds es : List PyData} (hp : ds.Perm es) (hal : ∀ a ∈ ds, ∀ b ∈ ds, W.alike a b = true) (hn : ∀ d ∈ ds, (nk d).isSome = true) : sortD ds = sortD es := by
  unfold sortD
  refine List.Perm.eq_of_pairwise (le := fun a b => dle a b = true) (fun a b ha hb h1 h2 => ?_) (isortL_sorted dle_trans dle_total ds) (isortL_sorted dle_trans dle_total es) ((isortL_perm _ ds).trans (hp.trans (isortL_perm _ es).symm))
  have ha' : a ∈ ds := (isortL_perm _ ds).mem_iff.mp ha
  have hb' : b ∈ ds := hp.mem_iff.mpr ((isortL_perm _ es).mem_iff.mp hb)
  rw [← dle_eq] at h1 h2
  exact le_anti (hal a ha' b hb') (hn a ha') (hn b hb') h1 h2
/-- the kit's sorting is the same -/
theorem merge_eq {ds : List PyData} (h : sortable ds = true) : ds.mergeSort (W.dataLe false id) = sortD ds := by
  unfold sortable at h
  simp only [Bool.and_eq_true, List.all_eq_true] at h
  obtain ⟨⟨⟨⟨_, hal⟩, _⟩, _⟩, hn⟩ := h
  unfold sortD
  refine List.Perm.eq_of_pairwise (le := fun a b => dle a b = true) (fun a b ha hb h1 h2 => ?_) ?_ (isortL_sorted dle_trans dle_total ds) ((List.mergeSort_perm ds _).trans (isortL_perm _ ds).symm)
  · have ha' : a ∈ ds := (List.mergeSort_perm ds _).mem_iff.mp ha
    have hb' : b ∈ ds := (isortL_perm _ ds).mem_iff.mp hb
    rw [← dle_eq] at h1 h2
    exact le_anti (hal a ha' b hb') (hn a ha') (hn b hb') h1 h2
  · have := List.pairwise_mergeSort le_trans' le_total' ds
    rw [dle_eq] at this ⊢
    exact this
theorem insL_map {α β : Type} (le : β → β → Bool) (g : α → β) (x : α) : ∀ l : List α, insL le (g x) (l.map g) = (insL (fun a b => le (g a) (g b)) x l).map g
  | [] => rfl
  | y :: ys => by
    rw [List.map_cons]
    unfold insL
    rw [insL_map le g x ys]
    split <;> rfl
theorem isortL_map {α β : Type} (le : β → β → Bool) (g : α → β) : ∀ l : List α, isortL le (l.map g) = (isortL (fun a b => le (g a) (g b)) l).map g
  | [] => rfl
  | x :: xs => by
    rw [List.map_cons]
    unfold isortL
    rw [isortL_map le g xs, insL_map]
theorem isortL_id {α : Type} {le : α → α → Bool} : ∀ {l : List α}, l.Pairwise (fun a b => le a b = true) → isortL le l = l
  | [], _ => rfl
  | x :: xs, h => by
    obtain ⟨h1, h2⟩ := List.pairwise_cons.mp h
    unfold isortL
    rw [isortL_id h2]
    cases xs with
    | nil => rfl
    | cons y ys =>
      unfold insL
      rw [if_pos (h1 y List.mem_cons_self)]
theorem sortD_map {α : Type} (g : α → PyData) (l : List α) : sortD (l.map g) = (isortL (fun a b => dle (g a) (g b)) l).map g := isortL_map _ _ _
end BK
set_option Elab.async false
set_option linter.all false
set_option maxRecDepth 100000
set_option maxHeartbeats 1000000
/-! The built-in calls by values, on. -/
namespace BK
open PySem L2
section
variable {X : Cx} {τ : Tn}
theorem cq_len : CallR X (.builtin "len") (rQ X.prog X.w X.K τ opLen) := by
  intro pins s σ H vs us Q I r ⟨x, e, S, dx, rr, hS, hx, hg, q⟩
  subst e
  unfold opLen at hg
  split at hg <;> try (cases hg; done)
  · cases hg
    obtain ⟨p, xs, rfl, hp, hd⟩ := hx.i.lst
    exact call_len_seq pins s σ H _ us Q I r ⟨p, xs, rfl, .inl (SqL.of hp), by rw [hd.length]; exact q _ _ (Al.refl H) (.int _)⟩
  · cases hg
    obtain ⟨p, xs, rfl, hp, hd⟩ := hx.i.tup
    exact call_len_seq pins s σ H _ us Q I r ⟨p, xs, rfl, .inr hp, by rw [hd.length]; exact q _ _ (Al.refl H) (.int _)⟩
  · obtain ⟨hl, hg⟩ := Option.ite_none_right_eq_some.mp hg
    cases hg
    obtain rfl := hx.i.str
    exact call_len_str pins s σ H _ us Q I r ⟨_, rfl, hl, q _ _ (Al.refl H) (.int _)⟩
theorem bools_of {K : PySem.W.Frag} {S : Addr → Prop} {H : Hp} : ∀ {ds : List PyData} {bs : List Bool} {vs : List V}, bools ds = some bs → Drs K S H vs ds → vs = bs.map V.bl
  | [], _, _, e, h => by cases e; cases h; rfl
  | d :: ds, bs, _, e, h => by
    cases h with
    | cons h1 h2 =>
      cases d with
      | bool b =>
        unfold bools at e
        simp only [Option.map_eq_some_iff] at e
        obtain ⟨r, e, rfl⟩ := e
        cases h1
        rw [bools_of e h2]
        rfl
      | none => cases e
      | int _ => cases e
      | str _ => cases e
      | list _ => cases e
      | tuple _ => cases e
      | dict _ => cases e
theorem cq_all (g : Gd X) : CallR X (.builtin "all") (rQ X.prog X.w X.K τ opAll) := by
  intro pins s σ H vs us Q I r ⟨x, e, S, dx, rr, hS, hx, hg, q⟩
  subst e
  unfold opAll at hg
  split at hg <;> try (cases hg; done)
  simp only [Option.map_eq_some_iff] at hg
  obtain ⟨bs, e, rfl⟩ := hg
  obtain ⟨p, xs, rfl, hp, hd⟩ := hx.i.lst
  obtain rfl := bools_of e hd
  exact cr_all g.calm pins s σ H _ us Q I r ⟨p, bs, rfl, SqL.of hp, q _ _ (Al.refl H) (.bl _)⟩
theorem cq_tuple : CallR X (.type "tuple") (rQ X.prog X.w X.K τ opTuple) := by
  intro pins s σ H vs us Q I r ⟨x, e, S, dx, rr, hS, hx, hg, q⟩
  subst e
  unfold opTuple at hg
  split at hg <;> try (cases hg; done)
  · cases hg
    obtain ⟨p, xs, rfl, hp, hd⟩ := hx.i.lst
    exact call_tuple_of pins s σ H _ us Q I r ⟨p, xs, rfl, .inl ⟨SqL.of hp, fun l nl => q _ _ (Al.new nl) (Dr.newT nl hd)⟩⟩
  · cases hg
    obtain ⟨p, xs, rfl, hp, hd⟩ := hx.i.tup
    exact call_tuple_of pins s σ H _ us Q I r ⟨p, xs, rfl, .inr ⟨hp, q _ _ (Al.refl H) (.tup hp hd)⟩⟩
theorem cq_list : CallR X (.type "list") (rQ X.prog X.w X.K τ opList) := by
  intro pins s σ H vs us Q I r ⟨x, e, S, dx, rr, hS, hx, hg, q⟩
  subst e
  unfold opList at hg
  split at hg <;> try (cases hg; done)
  · cases hg
    obtain ⟨p, xs, rfl, hp, hd⟩ := hx.i.lst
    exact call_list_of pins s σ H _ us Q I r ⟨p, xs, rfl, .inl (SqL.of hp), fun l nl => q _ _ (Al.new nl) (Dr.newL hS nl hd)⟩
  · cases hg
    obtain ⟨p, xs, rfl, hp, hd⟩ := hx.i.tup
    exact call_list_of pins s σ H _ us Q I r ⟨p, xs, rfl, .inr hp, fun l nl => q _ _ (Al.new nl) (Dr.newL hS nl hd)⟩

/-! ### sorting -/
theorem sortable_of {ds : List PyData} (h : sortable ds = true) : ds.length ≤ sizeLine ∧ W.AllAlike ds ∧ (∀ d ∈ ds, d.depth ≤ 60) ∧ W.Sortable ds := by
  unfold sortable fits at h
  simp only [Bool.and_eq_true, decide_eq_true_eq, List.all_eq_true, Bool.or_eq_true] at h
  obtain ⟨⟨⟨⟨h1, h2⟩, h3⟩, h4⟩, _⟩ := h
  refine ⟨h1, fun d hd d' hd' => h2 d hd d' hd', fun d hd => ok_le (h3 d hd), ?_⟩
  rcases h4 with h4 | h4
  · refine .inl fun d hd => ?_
    have z := h4 d hd
    split at z
    · exact ⟨_, _, rfl⟩
    · cases z
  · refine .inr fun d hd => ?_
    have z := h4 d hd
    cases d with
    | none => exact absurd z (by simp)
    | tuple xs => exact absurd z (by simp)
    | _ => exact ⟨fun e => (by cases e), fun xs e => (by cases e)⟩
/-- the values read, one by one -/
theorem each_of {pins : List (Addr × Obj)} {s : Shared} {σ : St} {H : Hp} {S : Addr → Prop} (I : Inv X pins σ H s) : ∀ {ds : List PyData} {vs : List V} {us : List Value}, Drs X.K S H vs ds → Vals vs us →
    W.EachIs (fun u d => ∃ v, RelV v u ∧ Dr X.K S H v d) us ds ∧ W.EachIs (fun u d => ∃ as, Reads s.heap u (id d) as) us ds
  | _, _, _, .nil, .nil => ⟨.nil, .nil⟩
  | _, _, _, .cons h1 h2, .cons r1 r2 => by
    obtain ⟨a, b⟩ := each_of I h2 r2
    exact ⟨.cons ⟨_, r1, h1⟩ a, .cons (h1.i.reads I r1) b⟩
theorem of_each {H : Hp} {S : Addr → Prop} {K : PySem.W.Frag} : ∀ {us : List Value} {ds : List PyData}, W.EachIs (fun u d => ∃ v, RelV v u ∧ Dr K S H v d) us ds → ∃ vs, Vals vs us ∧ Drs K S H vs ds
  | _, _, .nil => ⟨[], .nil, .nil⟩
  | _, _, .cons ⟨v, r, h⟩ t => by
    obtain ⟨vs, a, b⟩ := of_each t
    exact ⟨v :: vs, .cons r a, .cons h b⟩
theorem sort_list (g : Gd X) {pins : List (Addr × Obj)} {s : Shared} {σ : St} {H : Hp} {S : Addr → Prop} {a : Addr} {its : List Value} {vs : List V} {ds : List PyData} {Q : VK} (I : Inv X pins σ H s) (hS : ∀ a, S a → H a ≠ none)
    (hl : PySem.Heap.IsList s.heap a its.toArray) (rv : Vals vs its) (hd : Drs X.K S H vs ds) (hg : sortable ds = true) (q : ∀ v H', Al H H' → Dr X.K S H' v (.list (sortD ds)) → Q v H') :
    wpAny (model X.prog X.w) X.A (call (.builtin "sorted") [.ref a]) (EP X pins σ Q) X.xe s := by
  obtain ⟨h1, h2, h3, h4⟩ := sortable_of hg
  obtain ⟨e1, e2⟩ := each_of I hd rv
  have hu := g.un
  refine W.sorted_data (enc := id) (bs := ds) hl e1 e2 (by rw [List.map_id]; exact h2) (by rw [List.map_id]; exact h4) h1 (fun d hd => by have := h3 d hd; show X.A.units + 2 + d.depth < cLine; omega) fun out h5 h6 => ?_
  obtain ⟨ep, he⟩ := PyProof.Rows.sortedAll_at s.heap its out.toArray
  rw [merge_eq hg] at h6
  obtain ⟨ws, r2, d2⟩ := of_each h6
  have n : H (s.heap.objs.size + 1) = none := I.hok.fresh (Nat.le_succ _)
  have hlen : ws.length ≤ sizeLine := by rw [r2.length, h5]; exact h1
  refine ⟨.ref _, upd H (s.heap.objs.size + 1) (.lst ws), I.laid (t' := s.toks) (fun _ _ z => PyProof.Rows.sortedAll_old z) (Nat.le_succ _) ⟨hlen, out, ep, r2, he⟩, rfl, q _ _ (Al.new n) (Dr.newL hS n d2)⟩
theorem cq_min (g : Gd X) : CallR X (.builtin "min") (rQ X.prog X.w X.K τ opMin) := by
  intro pins s σ H vs us Q I r ⟨x, e, S, dx, rr, hS, hx, hg, q⟩
  subst e
  unfold opMin at hg
  split at hg <;> try (cases hg; done)
  rename_i d ds
  obtain ⟨hok, hg⟩ := Option.ite_none_right_eq_some.mp hg
  cases hg
  obtain ⟨p, xs, rfl, hp, hd⟩ := hx.i.lst
  obtain ⟨h1, h2, h3, h4⟩ := sortable_of hok
  obtain ⟨its, rv, hl, _⟩ := I.list (SqL.of hp)
  rw [Vals.ref1 r]
  obtain ⟨as, hr⟩ := Dp.readsAll I (d :: ds) xs its hd.dp rv
  have hu := g.un
  have hdep : PyData.depthAll (d :: ds) ≤ 60 := by
    have key : ∀ l : List PyData, (∀ z ∈ l, z.depth ≤ 60) → PyData.depthAll l ≤ 60 := by
      intro l
      induction l with
      | nil => intro _; simp [PyData.depthAll]
      | cons z l ih =>
        intro hz
        have a1 := hz z List.mem_cons_self
        have a2 := ih fun y hy => hz y (List.mem_cons_of_mem _ hy)
        simp only [PyData.depthAll]
        omega
    exact key _ h3
  have hne : ∀ z ∈ d :: ds, z ≠ PyData.none := fun z hz e => by
    rcases h4 with h4 | h4
    · obtain ⟨y, r, e'⟩ := h4 z hz
      rw [e] at e'
      cases e'
    · exact (h4 z hz).1 e
  refine W.min_list_data (I.ok.hd g.calm) hl.isList (by simpa using hr) ⟨h2, fun z hz e => hne z hz e⟩ (by omega) fun i v h' tk bs hv hrd hk => ?_
  have hv' : its[i]? = some v := by simpa using hv
  have hi : i < its.length := (List.getElem?_eq_some_iff.mp hv').1
  have hlen : xs.length = its.length := rv.length
  have hx' : xs[i]? = some xs[i] := List.getElem?_eq_getElem (by omega)
  obtain ⟨u, eu, ru⟩ := rv.get hx'
  rw [hv'] at eu
  cases eu
  have hdl := hd.length
  have hd' : (d :: ds)[i]? = some (d :: ds)[i] := List.getElem?_eq_getElem (by omega)
  obtain ⟨w', ew, hw⟩ := hd.get hd'
  rw [hx'] at ew
  cases ew
  obtain ⟨as', hr'⟩ := hw.i.reads I ru
  have e := SeqAt.plain_unique _ _ _ _ _ hw.plain (PyProof.Rows.Reads.keeps hk hr') hrd
  refine ⟨_, H, I.kept (t' := tk) hk, ru, q _ _ (Al.refl H) ?_⟩
  show Dr X.K S H _ _
  rw [← e]
  exact hw
theorem cq_str : CallR X (.type "str") (rQ X.prog X.w X.K τ opStr) := by
  intro pins s σ H vs us Q I r ⟨x, e, S, dx, rr, hS, hx, hg, q⟩
  subst e
  unfold opStr at hg
  split at hg <;> try (cases hg; done)
  · rename_i i
    obtain ⟨hl, hg⟩ := Option.ite_none_right_eq_some.mp hg
    cases hg
    obtain rfl := hx.i.int
    refine call_str_int pins s σ H _ us Q I r ⟨_, rfl, ?_, q _ _ (Al.refl H) (.str _)⟩
    have : i.natAbs.log2 ≤ i.natAbs := Nat.log2_le_self _
    by_cases h0 : i.natAbs = 0
    · rw [h0]; decide
    · exact Nat.lt_of_lt_of_le ((Nat.log2_lt h0).mpr (Nat.lt_of_lt_of_le hl (by decide : 1000000 ≤ 2 ^ 20))) (by decide)
  · cases hg
    obtain rfl := hx.i.str
    exact SkE.call_str_str pins s σ H _ us Q I r ⟨_, rfl, q _ _ (Al.refl H) (.str _)⟩
theorem cq_int : CallR X (.type "int") (rQ X.prog X.w X.K τ opInt) := by
  intro pins s σ H vs us Q I r ⟨x, e, S, dx, rr, hS, hx, hg, q⟩
  subst e
  unfold opInt at hg
  split at hg <;> try (cases hg; done)
  obtain ⟨hl, hg⟩ := Option.ite_none_right_eq_some.mp hg
  simp only [Option.map_eq_some_iff] at hg
  obtain ⟨n, e, rfl⟩ := hg
  obtain rfl := hx.i.str
  exact call_int_str pins s σ H _ us Q I r ⟨_, n, rfl, e, hl, q _ _ (Al.refl H) (.int _)⟩
end
end BK
set_option Elab.async false
set_option linter.all false
set_option maxRecDepth 100000
set_option maxHeartbeats 1000000
/-! isinstance, methods, slices. -/
namespace BK
open PySem L2
def tyN : PyData → String
  | .none => "NoneType"
  | .bool _ => "bool"
  | .int _ => "int"
  | .str _ => "str"
  | .list _ => "list"
  | .tuple _ => "tuple"
  | .dict _ => "dict"
def Ty.nm : Ty → String
  | .int => "int"
  | .bool => "bool"
  | .tuple => "tuple"
  | .str => "str"
theorem kit_all (t : Ty) (d : PyData) (h : d.plain = true) (K : PySem.W.Frag) : PySem.W.kitOne K (.type (tyN d)) (.type t.nm) = some (isTy t d) := by
  refine kit_ty ?_
  cases d with
  | dict _ => cases h
  | none =>
    cases t with
    | int => exact (by decide +kernel : kitB "NoneType" "int" = some false)
    | bool => exact (by decide +kernel : kitB "NoneType" "bool" = some false)
    | tuple => exact (by decide +kernel : kitB "NoneType" "tuple" = some false)
    | str => exact (by decide +kernel : kitB "NoneType" "str" = some false)
  | bool _ =>
    cases t with
    | int => exact (by decide +kernel : kitB "bool" "int" = some true)
    | bool => exact (by decide +kernel : kitB "bool" "bool" = some true)
    | tuple => exact (by decide +kernel : kitB "bool" "tuple" = some false)
    | str => exact (by decide +kernel : kitB "bool" "str" = some false)
  | int _ =>
    cases t with
    | int => exact (by decide +kernel : kitB "int" "int" = some true)
    | bool => exact (by decide +kernel : kitB "int" "bool" = some false)
    | tuple => exact (by decide +kernel : kitB "int" "tuple" = some false)
    | str => exact (by decide +kernel : kitB "int" "str" = some false)
  | str _ =>
    cases t with
    | int => exact (by decide +kernel : kitB "str" "int" = some false)
    | bool => exact (by decide +kernel : kitB "str" "bool" = some false)
    | tuple => exact (by decide +kernel : kitB "str" "tuple" = some false)
    | str => exact (by decide +kernel : kitB "str" "str" = some true)
  | list _ =>
    cases t with
    | int => exact (by decide +kernel : kitB "list" "int" = some false)
    | bool => exact (by decide +kernel : kitB "list" "bool" = some false)
    | tuple => exact (by decide +kernel : kitB "list" "tuple" = some false)
    | str => exact (by decide +kernel : kitB "list" "str" = some false)
  | tuple _ =>
    cases t with
    | int => exact (by decide +kernel : kitB "tuple" "int" = some false)
    | bool => exact (by decide +kernel : kitB "tuple" "bool" = some false)
    | tuple => exact (by decide +kernel : kitB "tuple" "tuple" = some true)
    | str => exact (by decide +kernel : kitB "tuple" "str" = some false)
theorem tyx_of {K : PySem.W.Frag} {S : Addr → Prop} {H : Hp} {v : V} {d : PyData} (h : DrI K S H v d) : TyX K H v (.type (tyN d)) := by
  cases d with
  | none => rw [h.non]; exact .base .non
  | bool _ => rw [h.bl]; exact .base (.bl _)
  | int _ => rw [h.int]; exact .base (.int _)
  | str _ => rw [h.str]; exact .base (.str _)
  | list _ =>
    obtain ⟨a, xs, rfl, e, _⟩ := h.lst
    exact .base (.lst e)
  | tuple _ =>
    obtain ⟨a, xs, rfl, e, _⟩ := h.tup
    rcases e with (e | ⟨o, e⟩) | ⟨o, its, n, e, c, _⟩
    · exact .base (.tup e)
    · exact .fTuple e
    · exact .kTuple e c
  | dict _ => exact absurd h.plain (by simp [PyData.plain])
/-- isinstance(x, T) -/
def rIs (P : Program) (w : World) (K : PySem.W.Frag) (τ : Tn) (t : Ty) : List V → Hp → VK → Prop := fun vs H Q => ∃ (S : Addr → Prop) (x : V) (d : PyData), vs = [x, .ty t.nm] ∧ Dv P w K τ S false H x (.dat d) ∧ Q (.bl (isTy t d)) H
section
variable {X : Cx} {τ : Tn}
theorem cq_is (t : Ty) : CallR X (.builtin "isinstance") (rIs X.prog X.w X.K τ t) := by
  intro pins s σ H vs us Q I r ⟨S, x, d, e, hx, q⟩
  subst e
  exact call_isi pins s σ H _ us Q I r ⟨x, .ty t.nm, .type (tyN d), .type t.nm, _, rfl, .ty _, tyx_of hx.i, kit_all t d hx.i.plain _, q⟩

/-! ### slices -/
def rS (P : Program) (w : World) (K : PySem.W.Frag) (τ : Tn) : V → Option Int → Option Int → Hp → VK → Prop := fun x lo hi H Q => ∃ (S : Addr → Prop) (dx r : D), (∀ a, S a → H a ≠ none) ∧
  Dv P w K τ S false H x dx ∧ opCut dx lo hi = some r ∧ ∀ v H', Al H H' → Dv P w K τ S true H' v r → Q v H'
theorem cut_whole {α : Type} {xs : List α} {lo hi : Option Int} (h : HT.sIx xs.length 0 lo = 0 ∧ HT.sIx xs.length xs.length hi = xs.length) : cut xs lo hi = xs := by
  unfold BK.cut
  rw [h.1, h.2]
  simp
theorem sl_all : SlR X (rS X.prog X.w X.K τ) := by
  intro pins s σ H x v vl vu lo hi sl Q I rx hs pl pu ⟨S, dx, r, hS, hx, hg, q⟩
  unfold opCut at hg
  split at hg <;> try (cases hg; done)
  · cases hg
    obtain ⟨p, xs, rfl, hp, hd⟩ := hx.i.lst
    exact sl_list pins s σ H _ v vl vu lo hi sl Q I rx hs pl pu ⟨p, xs, rfl, SqL.of hp, fun l nl => q _ _ (Al.new nl) (Dr.newL hS nl (hd.cut lo hi))⟩
  · cases hg
    obtain ⟨p, xs, rfl, hp, hd⟩ := hx.i.tup
    refine sl_tupA pins s σ H _ v vl vu lo hi sl Q I rx hs pl pu ⟨p, xs, rfl, hp, fun e => ?_, fun _ l nl => q _ _ (Al.new nl) (Dr.newT nl (hd.cut lo hi))⟩
    rw [hd.length] at e
    rw [cut_whole e] at q
    exact q _ _ (Al.refl H) (.tup hp hd)
  · obtain ⟨hl, hg⟩ := Option.ite_none_right_eq_some.mp hg
    cases hg
    obtain rfl := hx.i.str
    exact sl_str pins s σ H _ v vl vu lo hi sl Q I rx hs pl pu ⟨_, rfl, hl, q _ _ (Al.refl H) (.str _)⟩
end
end BK
set_option Elab.async false
set_option linter.all false
set_option maxRecDepth 100000
set_option maxHeartbeats 1000000
/-! What the small language says of the text; its meaning as readings. -/
namespace BK
open PySem L2

/-! ### the text -/
def visB (sc : Scope) (x : Str) : Bool := match sc.names.lookup x with
  | some .local => true
  | some .cell => true
  | some .free => true
  | _ => false
def locB (sc : Scope) (x : Str) : Bool := match sc.names.lookup x with
  | some .local => true
  | some .cell => true
  | _ => false
def glB (sc : Scope) (x : Str) : Bool := match sc.names.lookup x with
  | some .globalImplicit => true
  | _ => false
def notDbg (x : Str) : Bool := !(x == ("__debug__" : Str)) && !(x == ("__classdict__" : Str)) && !(x == ("" : Str))
def constOk : PyData → Const → Bool
  | .none, .none => true
  | .bool b, .bool c => b == c
  | .int i, .int j => i == j
  | .str x, .str y => x == y
  | _, _ => false
def boOk : BO → Operator → Bool
  | .add, .Add => true
  | .sub, .Sub => true
  | .mul, .Mult => true
  | .mod, .Mod => true
  | .fdiv, .FloorDiv => true
  | _, _ => false
def coOk : CO → CmpOp → Bool
  | .eq, .Eq => true
  | .ne, .NotEq => true
  | .lt, .Lt => true
  | .le, .LtE => true
  | .gt, .Gt => true
  | .ge, .GtE => true
  | .isin, .In => true
  | .notin, .NotIn => true
  | _, _ => false
def P1.nm : P1 → Str
  | .len => "len" | .all => "all" | .tuple => "tuple" | .list => "list" | .sorted => "sorted" | .min => "min" | .str => "str" | .int => "int"
def Ty.st : Ty → Str
  | .int => "int" | .bool => "bool" | .tuple => "tuple" | .str => "str"

mutual
def sameD : PyData → PyData → Bool
  | .none, .none => true
  | .bool b, .bool c => b == c
  | .int i, .int j => i == j
  | .str x, .str y => x == y
  | .tuple xs, .tuple ys => sameDs xs ys
  | _, _ => false
def sameDs : List PyData → List PyData → Bool
  | [], [] => true
  | x :: xs, y :: ys => sameD x y && sameDs xs ys
  | _, _ => false
end
mutual
theorem sameD_eq : ∀ (a b : PyData), sameD a b = true → a = b
  | .none, b, h => by cases b <;> first | rfl | (simp [sameD] at h)
  | .bool x, b, h => by cases b <;> simp [sameD] at h; rw [h]
  | .int x, b, h => by cases b <;> simp [sameD] at h; rw [h]
  | .str x, b, h => by cases b <;> simp [sameD] at h; rw [h]
  | .tuple xs, b, h => by
    cases b <;> simp [sameD] at h
    rw [sameDs_eq xs _ h]
  | .list _, b, h => by simp [sameD] at h
  | .dict _, b, h => by simp [sameD] at h
theorem sameDs_eq : ∀ (a b : List PyData), sameDs a b = true → a = b
  | [], b, h => by cases b <;> first | rfl | (simp [sameDs] at h)
  | x :: xs, b, h => by
    cases b with
    | nil => simp [sameDs] at h
    | cons y ys =>
      simp only [sameDs, Bool.and_eq_true] at h
      rw [sameD_eq x y h.1, sameDs_eq xs ys h.2]
end

/-- the names of what is said -/
structure Nm where
  N : List Str
  GN : List Str
  CN : List (Str × PyData)
  KW : List (Nat × Nat × List Str)
  EX : List Nat
  rc : Scope → CE → Expr → Bool
/-- without lambdas -/
def Nm.flat (nm : Nm) : Nm := { nm with rc := fun _ _ _ => false }
/-- the names of the keywords -/
def kwNames : List Keyword → Option (List Str)
  | [] => some []
  | k :: r => match k.arg, kwNames r with
    | some x, some xs => some (x :: xs)
    | _, _ => none
def noArgs (a : Arguments) : Bool := a.posonlyargs.isEmpty && a.args.isEmpty && a.vararg.isNone && a.kwonlyargs.isEmpty && a.kw_defaults.isEmpty && a.kwarg.isNone && a.defaults.isEmpty

def isNm (sc : Scope) (x : Str) : Expr → Bool
  | .Name y _ => y == x && glB sc y
  | _ => false
def starred : Expr → Bool
  | .Starred .. => true
  | _ => false
def slicy : Expr → Bool
  | .Slice .. => true
  | _ => false
def kwVals : List Keyword → Option (List Expr)
  | [] => some []
  | k :: r => match k.arg, kwVals r with
    | some _, some es => some (k.value :: es)
    | _, _ => none

mutual
/-- no a if t else b stands where a test is asked -/
def noIte : CE → Bool
  | .ite .. => false
  | .and es => noItes es
  | .or es => noItes es
  | .not a => noIte a
  | _ => true
def noItes : CEs → Bool
  | .nil => true
  | .cons e r => noIte e && noItes r
end
section
variable (nm : Nm)
mutual
def ckTg (fnb : Str → Bool) (sc : Scope) : Tg → Expr → Bool
  | .v i, .Name x _ => nm.N[i]? == some x && locB sc x && (fnb x || sc.names.lookup x == some .local)
  | .t ts, .Tuple es _ _ => ckTgs fnb sc ts es
  | _, _ => false
def ckTgs (fnb : Str → Bool) (sc : Scope) : List Tg → List Expr → Bool
  | [], [] => true
  | t :: ts, e :: es => ckTg fnb sc t e && ckTgs fnb sc ts es
  | _, _ => false
end
def blkFn (scope : Scope) (x : Str) : Bool := scope.names.lookup x == some .cell
def ownOf (own : List Nat) : List (Str × Nat) := own.map fun i => (nm.N.getD i Str.empty, i)
mutual
def ck (sc : Scope) : CE → Expr → Bool
  | .cst d, e_ => (match e_ with
    | .Constant c _ _ => constOk d c
    | _ => false)
  | .gcon x d, e_ => (match e_ with
    | .Name y _ => y == x && glB sc x && notDbg x && (match nm.CN.lookup x with | some d' => sameD d' d | none => false)
    | _ => false)
  | .fnc i, e_ => (match e_ with
    | .Name x _ => glB sc x && notDbg x && nm.GN[i]? == some x
    | _ => false)
  | .var i, e_ => (match e_ with
    | .Name x _ => nm.N[i]? == some x && visB sc x && notDbg x
    | _ => false)
  | .tup es, e_ => (match e_ with
    | .Tuple l _ _ => cks sc es l
    | _ => false)
  | .lst es, e_ => (match e_ with
    | .List l _ => cks sc es l
    | _ => false)
  | .bin o a b, e_ => (match e_ with
    | .BinOp l op r _ => boOk o op && ck sc a l && ck sc b r
    | _ => false)
  | .neg a, e_ => (match e_ with
    | .UnaryOp .USub e _ => ck sc a e
    | _ => false)
  | .cmp o a b, e_ => (match e_ with
    | .Compare l [op] [r] _ => coOk o op && ck sc a l && ck sc b r
    | _ => false)
  | .isN a, e_ => (match e_ with
    | .Compare l [.Is] [.Constant .none _ _] _ => ck sc a l
    | _ => false)
  | .notN a, e_ => (match e_ with
    | .Compare l [.IsNot] [.Constant .none _ _] _ => ck sc a l
    | _ => false)
  | .chn a b c, e_ => (match e_ with
    | .Compare l [.LtE, .LtE] [m, r] _ => ck sc a l && ck sc b m && ck sc c r
    | _ => false)
  | .and es, e_ => (match e_ with
    | .BoolOp .And l _ => cks sc es l && !l.isEmpty
    | _ => false)
  | .or es, e_ => (match e_ with
    | .BoolOp .Or l _ => cks sc es l && !l.isEmpty
    | _ => false)
  | .not a, e_ => (match e_ with
    | .UnaryOp .Not e _ => ck sc a e
    | _ => false)
  | .ite c a b, e_ => (match e_ with
    | .IfExp t x y _ => noIte c && ck sc c t && ck sc a x && ck sc b y
    | _ => false)
  | .idx a b, e_ => (match e_ with
    | .Subscript l r _ => ck sc a l && ck sc b r && !slicy r
    | _ => false)
  | .slL a lo, e_ => (match e_ with
    | .Subscript l (.Slice (some x) none none _) _ => ck sc a l && ck sc lo x
    | _ => false)
  | .slH a hi, e_ => (match e_ with
    | .Subscript l (.Slice none (some x) none _) _ => ck sc a l && ck sc hi x
    | _ => false)
  | .sl2 a lo hi, e_ => (match e_ with
    | .Subscript l (.Slice (some x) (some y) none _) _ => ck sc a l && ck sc lo x && ck sc hi y
    | _ => false)
  | .slR a, e_ => (match e_ with
    | .Subscript l (.Slice none none (some (.UnaryOp .USub (.Constant (.int 1) _ _) _)) _) _ => ck sc a l
    | _ => false)
  | .lc own tg it elt, e_ => (match e_ with
    | .ListComp e [⟨t, i, [], 0⟩] scope _ => blkC nm.N sc scope (ownOf nm own) && (tgSl tg).all own.contains && ckTg nm (blkFn scope) (relS scope sc) tg t && ckI sc it i t && ck (relS scope sc) elt e
    | _ => false)
  | .lcIf own tg it cond elt, e_ => (match e_ with
    | .ListComp e [⟨t, i, [c], 0⟩] scope _ => blkC nm.N sc scope (ownOf nm own) && (tgSl tg).all own.contains && ckTg nm (blkFn scope) (relS scope sc) tg t && ckI sc it i t && noIte cond && ck (relS scope sc) cond c && ck (relS scope sc) elt e
    | _ => false)
  | .call f es, e_ => (match e_ with
    | .Call (.Name x _) l [] _ => glB sc x && notDbg x && nm.GN[f]? == some x && cks sc es l
    | .Call (.Name x _) l (k :: ks) _ => glB sc x && notDbg x && (match kwVals (k :: ks), kwNames (k :: ks) with
      | some ws, some ns => nm.KW.contains (f, l.length, ns) && nm.GN[f]? == some x && cks sc es (l ++ ws)
      | _, _ => false)
    | _ => false)
  | .callv i fs es, e_ => (match e_ with
    | .Call (.Name x _) l [] _ => nm.N[i]? == some x && visB sc x && notDbg x && !l.isEmpty && fs.all (fun f => match nm.GN[f]? with | some y => notDbg y | none => false) && cks sc es l
    | _ => false)
  | .p1 p a, e_ => (match e_ with
    | .Call f [e] [] _ => isNm sc p.nm f && ck sc a e
    | _ => false)
  | .lrng a, e_ => (match e_ with
    | .Call f [.Call g [e] [] _] [] _ => isNm sc "list" f && isNm sc "range" g && ck sc a e
    | _ => false)
  | .trng a, e_ => (match e_ with
    | .Call f [.Call g [e] [] _] [] _ => isNm sc "tuple" f && isNm sc "range" g && ck sc a e
    | _ => false)
  | .isi a t, e_ => (match e_ with
    | .Call f [e, g] [] _ => isNm sc "isinstance" f && isNm sc t.st g && ck sc a e
    | _ => false)
  | .ssort a, e_ => (match e_ with
    | .Call f [.Call g [e] [] _] [] _ => isNm sc "sorted" f && isNm sc "set" g && ck sc a e
    | _ => false)
  | .lset a, e_ => (match e_ with
    | .Call f [.Call g [e] [] _] [] _ => isNm sc "len" f && isNm sc "set" g && ck sc a e
    | _ => false)
  | .min2 a b, e_ => (match e_ with
    | .Call f [x, y] [] _ => isNm sc "min" f && ck sc a x && ck sc b y
    | _ => false)
  | .dke a, e_ => (match e_ with
    | .Call f [e] [] _ => isNm sc "dict" f && ck sc a e
    | _ => false)
  | .lenum a, e_ => (match e_ with
    | .Call f [.Call g [e] [] _] [] _ => isNm sc "list" f && isNm sc "enumerate" g && ck sc a e
    | _ => false)
  | .dnew, e_ => (match e_ with
    | .Dict [] [] _ => true
    | _ => false)
  | .done k v, e_ => (match e_ with
    | .Dict [some x] [y] _ => ck sc k x && ck sc v y
    | _ => false)
  | .dget d k x, e_ => (match e_ with
    | .Call (.Attribute (.Name o p) n ap) [e, f] [] cp => n == ("get" : Str) && ap.endLine == cp.line && ck sc d (.Name o p) && ck sc k e && ck sc x f
    | _ => false)
  | .meth _ _ _, _ => false
  | .res e, e_ => (match e_ with
    | .Call (.Name x _) [.Lambda ps b scope _] [] _ => x == ("_law_result" : Str) && glB sc x && noArgs ps && LamX.lamSB sc scope && nm.rc scope e b
    | _ => false)
def cks (sc : Scope) : CEs → List Expr → Bool
  | .nil, [] => true
  | .cons c r, e :: es => ck sc c e && cks sc r es
  | _, _ => false
def ckI (sc : Scope) : CI → Expr → Expr → Bool
  | .seq c, e, _ => ck sc c e
  | .rng c, e, _ => (match e with
    | .Call f [e] [] _ => isNm sc "range" f && ck sc c e
    | _ => false)
  | .enum a, e, t => (match e, t with
    | .Call f [x] [] _, .Tuple .. => isNm sc "enumerate" f && ck sc a x
    | _, _ => false)
  | .zip a b, e, t => (match e, t with
    | .Call f [x, y] [] _, .Tuple .. => isNm sc "zip" f && ck sc a x && ck sc b y
    | _, _ => false)
  | .keys c, e, _ => ck sc c e
end
end

/-! ### readings -/
section
variable {τ : Tn} {E : XK} {H : Hp} {s : Twn}
/-- what is wanted of an outcome, from the heap H on -/
def Ok {α : Type} (τ : Tn) (E : XK) (H : Hp) (r : Res α) (Q : α → Twn → Hp → Prop) : Prop :=
  Wp r (fun a s' => ∀ H', Xt τ H H' → TownR τ H' s' → Q a s' H') fun c s' => ∀ H', Xt τ H H' → TownR τ H' s' → E (τ.cl c) none H'
theorem Ok.bnd {α β : Type} {x : M α} {f : α → M β} {Q : β → Twn → Hp → Prop} (h : Ok τ E H ((x >>= f) s) Q) : Ok τ E H (x s) fun a s' H1 => Ok τ E H1 (f a s') Q :=
  Wp.mono (Wp.bnd h) (fun a s' h1 H1 e1 _ => Wp.mono h1 (fun b s2 h2 H2 e2 t2 => h2 H2 (e1.trans e2) t2) fun c s2 h2 H2 e2 t2 => h2 H2 (e1.trans e2) t2) fun c s' h1 => h1
theorem Ok.imp {α : Type} {r : Res α} {Q Q' : α → Twn → Hp → Prop} (h : Ok τ E H r Q) (f : ∀ a s' H', Xt τ H H' → TownR τ H' s' → Q a s' H' → Q' a s' H') : Ok τ E H r Q' :=
  Wp.mono h (fun a s' h1 H' e t => f a s' H' e t (h1 H' e t)) fun c s' h1 => h1
theorem Ok.of {α : Type} {o : Option α} {Q : α → Twn → Hp → Prop} (h : Ok τ E H (M.of o s) Q) : ∃ a, o = some a ∧ ∀ H', Xt τ H H' → TownR τ H' s → Q a s H' := Wp.of h
theorem Ok.ret {α : Type} {a : α} {Q : α → Twn → Hp → Prop} (h : Ok τ E H (M.ret a s) Q) : ∀ H', Xt τ H H' → TownR τ H' s → Q a s H' := h
theorem Ok.iff {α : Type} {c : Prop} [Decidable c] {x y : M α} {Q : α → Twn → Hp → Prop} (h : Ok τ E H ((if c then x else y) s) Q) : (c ∧ Ok τ E H (x s) Q) ∨ (¬ c ∧ Ok τ E H (y s) Q) := Wp.iff h
theorem Ok.ifN {α : Type} {c : Prop} [Decidable c] {x : M α} {Q : α → Twn → Hp → Prop} (h : Ok τ E H ((if c then x else M.non) s) Q) : c ∧ Ok τ E H (x s) Q := Wp.ifN h
theorem Ok.int {d : D} {Q : Int → Twn → Hp → Prop} (h : Ok τ E H (intOf d s) Q) : ∃ i, d = int i ∧ ∀ H', Xt τ H H' → TownR τ H' s → Q i s H' := by
  unfold intOf at h
  split at h
  · exact ⟨_, rfl, h⟩
  · exact h.elim
theorem Ok.dat {d : D} {Q : PyData → Twn → Hp → Prop} (h : Ok τ E H (datOf d s) Q) : ∃ p, d = .dat p ∧ ∀ H', Xt τ H H' → TownR τ H' s → Q p s H' := by
  unfold datOf at h
  split at h
  · exact ⟨_, rfl, h⟩
  · exact h.elim
theorem Ok.tru {d : D} {Q : Bool → Twn → Hp → Prop} (h : Ok τ E H (truth d s) Q) : ∃ b, d = bl b ∧ ∀ H', Xt τ H H' → TownR τ H' s → Q b s H' := by
  unfold truth at h
  split at h
  · exact ⟨_, rfl, h⟩
  · exact h.elim
end
/-- what there is around a piece of text -/
structure Ar where
  P : Program
  w : World
  K : PySem.W.Frag
  τ : Tn
  B : Addr → Prop
  E : XK
section
variable (a : Ar)
abbrev Ar.Rp (env : Env) (σ : St) (H : Hp) : Prop := Rep a.P a.w a.K a.τ a.B env σ H
abbrev Ar.Va (env : Env) (σ : St) (md : Bool) (H : Hp) (v : V) (d : D) : Prop := Dv a.P a.w a.K a.τ (Av a.B env σ) md H v d
def tD (md : Bool) (m : Env → M D) : TE := fun σ H Q => ∃ env s, a.Rp env σ H ∧ TownR a.τ H s ∧ Ok a.τ a.E H (m env s) fun d _ H' => ∀ v, a.Va env σ md H' v d → Q v H'
def tT (m : Env → M Bool) : TT := fun σ H Q => ∃ env s, a.Rp env σ H ∧ TownR a.τ H s ∧ Ok a.τ a.E H (m env s) fun b _ H' => Q b H'
inductive Dvs (a : Ar) (S : Addr → Prop) (H : Hp) : List V → List D → Prop
  | nil : Dvs a S H [] []
  | cons {v : V} {vs : List V} {d : D} {ds : List D} : Dv a.P a.w a.K a.τ S true H v d → Dvs a S H vs ds → Dvs a S H (v :: vs) (d :: ds)
def tA (m : Env → M (List D)) : TA := fun σ H Q => ∃ env s, a.Rp env σ H ∧ TownR a.τ H s ∧ Ok a.τ a.E H (m env s) fun ds _ H' => ∀ vs, Dvs a (Av a.B env σ) H' vs ds → Q vs H'
/-- the iterator gives ds one by one, while all but R stays -/
def ItOk (K : PySem.W.Frag) (S R : Addr → Prop) (H : Hp) (J : It) (ds : List PyData) : Prop :=
  ∀ (S' : Addr → Prop) (i : Nat) (H' : Hp), (∀ a, S' a → S a ∨ H a = none) → (∀ a, R a → S' a) → Ke R H H' → (∀ d, ds[i]? = some d → J.go i H' ∧ ∀ x H'', J.yld i H' x H'' → Al H' H'' ∧ Dr K S' H'' x d) ∧ (ds.length ≤ i → J.stop i H')
/-- md: what the loop walks stays although the frame writes -/
def tI (md : Bool) (m : Env → M (List PyData)) : TI := fun σ H R => ∃ env s, a.Rp env σ H ∧ TownR a.τ H s ∧ Ok a.τ a.E H (m env s) fun ds _ H' => ∀ J, ItOk a.K (Av a.B env σ) (if md then Av a.B env σ else a.τ.T) H' J ds → R J H'
end
theorem _root_.L2.PE.imp {X : Cx} {e : Expr} {t t' : TE} (h : PE X e t) (f : ∀ σ H Q, t' σ H Q → t σ H Q) : PE X e t' := ⟨fun pins s σ H Q I z => h.run pins s σ H Q I (f _ _ _ z)⟩
theorem _root_.L2.PT.imp {X : Cx} {e : Expr} {t t' : TT} (h : PT X e t) (f : ∀ σ H Q, t' σ H Q → t σ H Q) : PT X e t' := ⟨fun pins s σ H Q I z => h.run pins s σ H Q I (f _ _ _ z)⟩
theorem _root_.L2.PA.imp {X : Cx} {e : List Expr} {t t' : TA} (h : PA X e t) (f : ∀ σ H Q, t' σ H Q → t σ H Q) : PA X e t' := ⟨fun pos pins s σ H Q I z => h.run pos pins s σ H Q I (f _ _ _ z)⟩
theorem _root_.L2.PI.imp {X : Cx} {tg e : Expr} {t t' : TI} (h : PI X tg e t) (f : ∀ σ H Q, t' σ H Q → t σ H Q) : PI X tg e t' := ⟨fun pins s σ H Q I z => h.run pins s σ H Q I (f _ _ _ z)⟩
end BK
set_option Elab.async false
set_option linter.all false
set_option maxRecDepth 100000
set_option maxHeartbeats 2000000
/-! The readings of the parts are the readings of the whole: expressions. -/
namespace BK
open PySem L2

abbrev arOf (X : Cx) (τ : Tn) (B : Addr → Prop) (E : XK) : Ar := ⟨X.prog, X.w, X.K, τ, B, E⟩
section
variable {X : Cx} {τ : Tn} {B : Addr → Prop} {E : XK} {md : Bool} {pos : Pos} {env : Env} {σ : St} {H H' : Hp} {s : Twn}

theorem Rep.keep (R : Rep X.prog X.w X.K τ B env σ H) (t : TownR τ H s) (x : Xt τ H H') : Rep X.prog X.w X.K τ B env σ H' := R.xt t x
theorem Va.keep {v : V} {d : D} (R : Rep X.prog X.w X.K τ B env σ H) (t : TownR τ H s) (x : Xt τ H H') (h : Dv X.prog X.w X.K τ (Av B env σ) md H v d) : Dv X.prog X.w X.K τ (Av B env σ) md H' v d := Xt.dv x t R.tS h

theorem sn_val {e : Expr} {v : V} {d : D} (h : PE X e (tC v)) (hv : ∀ S H, Dv X.prog X.w X.K τ S true H v d) : PE X e (tD (arOf X τ B E) md fun _ => M.ret d) :=
  h.imp fun σ H Q ⟨env, s, R, t, h⟩ => h.ret H (Xt.refl H) t v (hv _ _).weak
theorem sn_var {x : Str} {i : Nat} (hN : X.N[i]? = some x) (hv : Vis X.env.scope x) (h1 : (x == ("__debug__" : Str)) = false) (h2 : (x == ("__classdict__" : Str)) = false) (G : Nat → Fun) :
    PE X (.Name x pos) (tD (arOf X τ B E) md (ev G md (.var i))) := by
  refine (pe_var hN hv h1 h2).imp fun σ H Q ⟨env, s, R, t, h⟩ => ?_
  simp only [ev] at h
  cases he : env[i]? with
  | none =>
    rw [he] at h
    exact h.elim
  | some o =>
    cases o with
    | none =>
      rw [he] at h
      exact h.elim
    | some p =>
      obtain ⟨o, d⟩ := p
      rw [he] at h
      simp only at h
      by_cases hc : (md && o) = true
      · rw [if_pos hc] at h
        exact h.elim
      · rw [if_neg hc] at h
        cases o with
        | false =>
          obtain ⟨v, e1, e2⟩ := R.val i d he
          exact ⟨v, e1, h.ret H (Xt.refl H) t v e2.weak⟩
        | true =>
          cases md with
          | true => exact absurd rfl hc
          | false =>
            obtain ⟨p, e1, _, _, e2⟩ := R.own i d he
            exact ⟨.ref p, e1, h.ret H (Xt.refl H) t _ e2⟩

/-! ### lists of expressions -/
theorem sn_nil : PA X [] (tA (arOf X τ B E) fun _ => M.ret []) := pa_nil.imp fun σ H Q ⟨env, s, R, t, h⟩ => h.ret H (Xt.refl H) t [] .nil
theorem Dvs.keep {a : Ar} {S : Addr → Prop} {vs : List V} {ds : List D} (x : Xt a.τ H H') (t : TownR a.τ H s) (hS : ∀ b, a.τ.T b → S b) (h : Dvs a S H vs ds) : Dvs a S H' vs ds := by
  induction h with
  | nil => exact .nil
  | cons h _ ih => exact .cons (Xt.dv x t hS h) ih
theorem sn_cons {e : Expr} {es : List Expr} {m : Env → M D} {ms : Env → M (List D)} (h : PE X e (tD (arOf X τ B E) true m)) (hs : PA X es (tA (arOf X τ B E) ms)) (hst : starEach (e :: es) X.env = (false, eval e X.env) :: starEach es X.env) :
    PA X (e :: es) (tA (arOf X τ B E) fun env => do let x ← m env; let xs ← ms env; M.ret (x :: xs)) := by
  refine (pa_cons h hs hst).imp fun σ H Q ⟨env, s, R, t, h⟩ => ?_
  refine ⟨env, s, R, t, h.bnd.imp fun x s1 H1 e1 t1 h1 v dv => ?_⟩
  refine ⟨env, s1, R.xt t e1, t1, h1.bnd.imp fun xs s2 H2 e2 t2 h2 vs dvs => ?_⟩
  exact h2.ret H2 (Xt.refl H2) t2 (v :: vs) (.cons (Xt.dv e2 t1 R.tS dv) dvs)
theorem datL_of {a : Ar} {S : Addr → Prop} : ∀ {ds : List D} {ps : List PyData} {vs : List V}, datL ds = some ps → Dvs a S H vs ds → Drs a.K S H vs ps
  | [], _, _, e, h => by
    cases h
    cases e
    exact .nil
  | d :: ds, _, _, e, h => by
    cases h with
    | cons h1 h2 =>
      cases d with
      | dat p =>
        unfold datL at e
        simp only [Option.map_eq_some_iff] at e
        obtain ⟨r, e, rfl⟩ := e
        exact .cons h1 (datL_of e h2)
      | dK _ => cases e
      | dT _ => cases e
      | fn _ => cases e
      | town => cases e
      | scr => cases e
theorem fits_of {ds : List PyData} (h : fits ds = true) : ds.length ≤ sizeLine := of_decide_eq_true h
theorem sn_tup {es : List Expr} {k : Nat} {ms : Env → M (List D)} (h : PA X es (tA (arOf X τ B E) ms)) :
    PE X (.Tuple es k pos) (tD (arOf X τ B E) md fun env => do let ds ← ms env; let ds ← M.of (datL ds); if fits ds then M.ret (tup ds) else M.non) := by
  refine (pe_tup h).imp fun σ H Q ⟨env, s, R, t, h⟩ => ?_
  refine ⟨env, s, R, t, h.bnd.imp fun ds s1 H1 e1 t1 h1 vs dvs => ?_⟩
  obtain ⟨ps, ep, h2⟩ := h1.bnd.of
  obtain ⟨hf, h3⟩ := (h2 H1 (Xt.refl H1) t1).ifN
  have hd := datL_of ep dvs
  refine ⟨by rw [hd.length]; exact fits_of hf, fun p np => h3.ret _ (Al.new np).xt ((Al.new np).town t1) _ (Dv.weak (d := .dat _) (Dr.newT np hd))⟩
theorem sn_lst {es : List Expr} {ms : Env → M (List D)} (h : PA X es (tA (arOf X τ B E) ms)) :
    PE X (.List es pos) (tD (arOf X τ B E) md fun env => do let ds ← ms env; let ds ← M.of (datL ds); if fits ds then M.ret (lst ds) else M.non) := by
  refine (pe_lst h).imp fun σ H Q ⟨env, s, R, t, h⟩ => ?_
  refine ⟨env, s, R, t, h.bnd.imp fun ds s1 H1 e1 t1 h1 vs dvs => ?_⟩
  obtain ⟨ps, ep, h2⟩ := h1.bnd.of
  obtain ⟨hf, h3⟩ := (h2 H1 (Xt.refl H1) t1).ifN
  have hd := datL_of ep dvs
  refine ⟨by rw [hd.length]; exact fits_of hf, fun p np => h3.ret _ (Al.new np).xt ((Al.new np).town t1) _ (Dv.weak (d := .dat _) (Dr.newL (R.xt t e1).sdom np hd))⟩

/-! ### operators -/
theorem sn_bin {l r : Expr} {op : Operator} {g : D → D → Option D} {m1 m2 : Env → M D} (ho : OpR X (binaryOp op) (rB X.prog X.w X.K τ g)) (hl : PE X l (tD (arOf X τ B E) false m1)) (hr : PE X r (tD (arOf X τ B E) false m2)) :
    PE X (.BinOp l op r pos) (tD (arOf X τ B E) md fun env => do let x ← m1 env; let y ← m2 env; M.of (g x y)) := by
  refine (pe_op ho hl hr).imp fun σ H Q ⟨env, s, R, t, h⟩ => ?_
  refine ⟨env, s, R, t, h.bnd.imp fun x s1 H1 e1 t1 h1 v dv => ?_⟩
  refine ⟨env, s1, R.xt t e1, t1, h1.bnd.imp fun y s2 H2 e2 t2 h2 u du => ?_⟩
  obtain ⟨d, ed, h3⟩ := h2.of
  exact ⟨_, x, y, d, ((R.xt t e1).xt t1 e2).sdom, Xt.dv e2 t1 R.tS dv, du, ed, fun w' H' al dw => h3 H' al.xt (al.town t2) w' dw.weak⟩
theorem sn_cmp {l r : Expr} {op : CmpOp} {g : D → D → Option Bool} {m1 m2 : Env → M D} (ho : OpR X (compareOp op) (rC X.prog X.w X.K τ g)) (hl : PE X l (tD (arOf X τ B E) false m1)) (hr : PE X r (tD (arOf X τ B E) false m2)) (hm : behindInMarks op r = false) :
    PE X (.Compare l [op] [r] pos) (tD (arOf X τ B E) md fun env => do let x ← m1 env; let y ← m2 env; let b ← M.of (g x y); M.ret (bl b)) := by
  refine (pe_cmpR ho hl hr hm).imp fun σ H Q ⟨env, s, R, t, h⟩ => ?_
  refine ⟨env, s, R, t, h.bnd.imp fun x s1 H1 e1 t1 h1 v dv => ?_⟩
  refine ⟨env, s1, R.xt t e1, t1, h1.bnd.imp fun y s2 H2 e2 t2 h2 u du => ?_⟩
  obtain ⟨d, ed, h3⟩ := h2.bnd.of
  exact ⟨_, x, y, d, Xt.dv e2 t1 R.tS dv, du, ed, (h3 H2 (Xt.refl H2) t2).ret H2 (Xt.refl H2) t2 _ (Dv.weak (d := .dat _) (.bl d))⟩
theorem sn_cmpT {l r : Expr} {op : CmpOp} {g : D → D → Option Bool} {m1 m2 : Env → M D} (ho : OpR X (compareOp op) (rC X.prog X.w X.K τ g)) (hl : PE X l (tD (arOf X τ B E) false m1)) (hr : PE X r (tD (arOf X τ B E) false m2)) (hm : behindInMarks op r = false) :
    PT X (.Compare l [op] [r] pos) (tT (arOf X τ B E) fun env => do let x ← m1 env; let y ← m2 env; M.of (g x y)) := by
  refine (pt_cmpR ho hl hr hm).imp fun σ H Q ⟨env, s, R, t, h⟩ => ?_
  refine ⟨env, s, R, t, h.bnd.imp fun x s1 H1 e1 t1 h1 v dv => ?_⟩
  refine ⟨env, s1, R.xt t e1, t1, h1.bnd.imp fun y s2 H2 e2 t2 h2 u du => ?_⟩
  obtain ⟨d, ed, h3⟩ := h2.of
  exact ⟨_, x, y, d, Xt.dv e2 t1 R.tS dv, du, ed, d, rfl, h3 H2 (Xt.refl H2) t2⟩
theorem sn_neg {e : Expr} {m : Env → M D} (h : PE X e (tD (arOf X τ B E) false m)) : PE X (.UnaryOp .USub e pos) (tD (arOf X τ B E) md fun env => do let i ← intOf (← m env); M.ret (int (-i))) := by
  refine (pe_un un_neg h).imp fun σ H Q ⟨env, s, R, t, h⟩ => ?_
  refine ⟨env, s, R, t, h.bnd.imp fun x s1 H1 e1 t1 h1 v dv => ?_⟩
  obtain ⟨i, rfl, h2⟩ := h1.bnd.int
  obtain rfl := dv.i.int
  exact ⟨i, rfl, (h2 H1 (Xt.refl H1) t1).ret H1 (Xt.refl H1) t1 _ (Dv.weak (d := .dat _) (.int _))⟩
theorem non_iff {K : PySem.W.Frag} {S : Addr → Prop} {v : V} {d : PyData} (h : DrI K S H v d) : decide (v = .non) = isNon d := by
  cases d with
  | none => rw [h.non]; rfl
  | bool _ => rw [h.bl]; rfl
  | int _ => rw [h.int]; rfl
  | str _ => rw [h.str]; rfl
  | list _ =>
    obtain ⟨a, xs, rfl, _⟩ := h.lst
    rfl
  | tuple _ =>
    obtain ⟨a, xs, rfl, _⟩ := h.tup
    rfl
  | dict _ => exact absurd h.plain (by simp [PyData.plain])
theorem sn_isN {e : Expr} {m : Env → M D} {k : Nat} {p : Pos} (h : PE X e (tD (arOf X τ B E) false m)) :
    PE X (.Compare e [.Is] [.Constant .none k p] pos) (tD (arOf X τ B E) md fun env => do let x ← datOf (← m env); M.ret (bl (isNon x))) := by
  refine (pe_cmp (pc_isN h)).imp fun σ H Q ⟨env, s, R, t, h⟩ => ?_
  refine ⟨env, s, R, t, h.bnd.imp fun x s1 H1 e1 t1 h1 v dv => ?_⟩
  obtain ⟨i, rfl, h2⟩ := h1.bnd.dat
  rw [non_iff dv.i]
  exact (h2 H1 (Xt.refl H1) t1).ret H1 (Xt.refl H1) t1 _ (Dv.weak (d := .dat _) (.bl _))
theorem sn_notN {e : Expr} {m : Env → M D} {k : Nat} {p : Pos} (h : PE X e (tD (arOf X τ B E) false m)) :
    PE X (.Compare e [.IsNot] [.Constant .none k p] pos) (tD (arOf X τ B E) md fun env => do let x ← datOf (← m env); M.ret (bl (!isNon x))) := by
  refine (pe_cmp (pc_notN h)).imp fun σ H Q ⟨env, s, R, t, h⟩ => ?_
  refine ⟨env, s, R, t, h.bnd.imp fun x s1 H1 e1 t1 h1 v dv => ?_⟩
  obtain ⟨i, rfl, h2⟩ := h1.bnd.dat
  rw [non_iff dv.i]
  exact (h2 H1 (Xt.refl H1) t1).ret H1 (Xt.refl H1) t1 _ (Dv.weak (d := .dat _) (.bl _))
theorem sn_chn {x y z : Expr} {m1 m2 m3 : Env → M D} (h1 : PE X x (tD (arOf X τ B E) false m1)) (h2 : PE X y (tD (arOf X τ B E) false m2)) (h3 : PE X z (tD (arOf X τ B E) false m3)) :
    PE X (.Compare x [.LtE, .LtE] [y, z] pos) (tD (arOf X τ B E) md fun env => do
      let x ← intOf (← m1 env)
      let y ← intOf (← m2 env)
      if x ≤ y then
        let z ← intOf (← m3 env)
        M.ret (bl (decide (y ≤ z)))
      else M.ret (bl false)) := by
  refine (pe_chain op_le op_le h1 h2 h3 (hm := nomark (op := .LtE) z)).imp fun σ H Q ⟨env, s, R, t, h⟩ => ?_
  refine ⟨env, s, R, t, h.bnd.imp fun x s1 H1 e1 t1 h1 v dv => ?_⟩
  obtain ⟨i, rfl, k1⟩ := h1.bnd.int
  obtain rfl := dv.i.int
  refine ⟨env, s1, R.xt t e1, t1, (k1 H1 (Xt.refl H1) t1).bnd.imp fun y s2 H2 e2 t2 h2 u du => ?_⟩
  obtain ⟨j, rfl, k2⟩ := h2.bnd.int
  obtain rfl := du.i.int
  refine ⟨i, j, rfl, rfl, decide (i ≤ j), rfl, ?_⟩
  rcases (k2 H2 (Xt.refl H2) t2).iff with ⟨hc, h3⟩ | ⟨hc, h3⟩
  · rw [if_pos (decide_eq_true hc)]
    refine ⟨env, s2, (R.xt t e1).xt t1 e2, t2, h3.bnd.imp fun z s3 H3 e3 t3 h3 w' dw => ?_⟩
    obtain ⟨k, rfl, k3⟩ := h3.bnd.int
    obtain rfl := dw.i.int
    exact ⟨j, k, rfl, rfl, (k3 H3 (Xt.refl H3) t3).ret H3 (Xt.refl H3) t3 _ (Dv.weak (d := .dat _) (.bl _))⟩
  · rw [if_neg (by rw [decide_eq_false hc]; exact Bool.false_ne_true)]
    exact h3.ret H2 (Xt.refl H2) t2 _ (Dv.weak (d := .dat _) (.bl _))

/-! ### tests -/
theorem sn_tt {e : Expr} {m : Env → M D} (h : PE X e (tD (arOf X τ B E) true m)) (he : ∀ whole, isTrue e X.env whole = (do let v ← whole; standAt e.pos; holding [v] (truthy v))) : PT X e (tT (arOf X τ B E) fun env => do truth (← m env)) := by
  refine (pt_val h he).imp fun σ H Q ⟨env, s, R, t, h⟩ => ?_
  refine ⟨env, s, R, t, h.bnd.imp fun x s1 H1 e1 t1 h1 v dv => ?_⟩
  obtain ⟨b, rfl, h2⟩ := h1.tru
  exact ⟨b, dv.i.bl, h2 H1 (Xt.refl H1) t1⟩
theorem sn_not {e : Expr} {m : Env → M D} (h : PE X e (tD (arOf X τ B E) true m)) : PE X (.UnaryOp .Not e pos) (tD (arOf X τ B E) md fun env => do let r ← truth (← m env); M.ret (bl (!r))) := by
  refine (pe_not h).imp fun σ H Q ⟨env, s, R, t, h⟩ => ?_
  refine ⟨env, s, R, t, h.bnd.imp fun x s1 H1 e1 t1 h1 v dv => ?_⟩
  obtain ⟨b, rfl, h2⟩ := h1.bnd.tru
  exact ⟨b, dv.i.bl, (h2 H1 (Xt.refl H1) t1).ret H1 (Xt.refl H1) t1 _ (Dv.weak (d := .dat _) (.bl _))⟩
theorem sn_notT {e : Expr} {m : Env → M Bool} (h : PT X e (tT (arOf X τ B E) m)) : PT X (.UnaryOp .Not e pos) (tT (arOf X τ B E) fun env => do let r ← m env; M.ret (!r)) := by
  refine (pt_not h).imp fun σ H Q ⟨env, s, R, t, h⟩ => ?_
  exact ⟨env, s, R, t, h.bnd.imp fun x s1 H1 e1 t1 h1 => h1.ret H1 (Xt.refl H1) t1⟩
theorem sn_and1 {e : Expr} {m : Env → M D} (h : PE X e (tD (arOf X τ B E) true m)) : PE X (.BoolOp .And [e] pos) (tD (arOf X τ B E) md fun env => do let r ← (do if ← truth (← m env) then M.ret true else M.ret false); M.ret (bl r)) := by
  refine (pe_one h).imp fun σ H Q ⟨env, s, R, t, h⟩ => ?_
  refine ⟨env, s, R, t, h.bnd.bnd.imp fun x s1 H1 e1 t1 h1 v dv => ?_⟩
  have h1 := h1.bnd
  obtain ⟨b, rfl, h2⟩ := h1.tru
  obtain rfl := dv.i.bl
  have h3 := h2 H1 (Xt.refl H1) t1
  cases b with
  | true =>
    rw [if_pos rfl] at h3
    exact (h3.ret H1 (Xt.refl H1) t1).ret H1 (Xt.refl H1) t1 _ (Dv.weak (d := .dat _) (.bl _))
  | false =>
    rw [if_neg Bool.false_ne_true] at h3
    exact (h3.ret H1 (Xt.refl H1) t1).ret H1 (Xt.refl H1) t1 _ (Dv.weak (d := .dat _) (.bl _))
theorem sn_and {e e2 : Expr} {es : List Expr} {m : Env → M D} {mr : Env → M Bool} (h : PE X e (tD (arOf X τ B E) true m)) (hr : PE X (.BoolOp .And (e2 :: es) pos) (tD (arOf X τ B E) true fun env => do let r ← mr env; M.ret (bl r))) :
    PE X (.BoolOp .And (e :: e2 :: es) pos) (tD (arOf X τ B E) md fun env => do let r ← (do if ← truth (← m env) then mr env else M.ret false); M.ret (bl r)) := by
  refine (pe_and h hr).imp fun σ H Q ⟨env, s, R, t, h⟩ => ?_
  refine ⟨env, s, R, t, h.bnd.bnd.imp fun x s1 H1 e1 t1 h1 v dv => ?_⟩
  have h1 := h1.bnd
  obtain ⟨b, rfl, h2⟩ := h1.tru
  obtain rfl := dv.i.bl
  refine ⟨b, rfl, ?_⟩
  have h3 := h2 H1 (Xt.refl H1) t1
  cases b with
  | true =>
    rw [if_pos rfl] at h3 ⊢
    refine ⟨env, s1, R.xt t e1, t1, ?_⟩
    show Ok τ E H1 (M.bnd (mr env) _ s1) _
    unfold M.bnd Ok
    cases q : mr env s1 with
    | ok r s2 =>
      rw [q] at h3
      intro H2 e2 t2 v hv
      exact (h3 H2 e2 t2).ret H2 (Xt.refl H2) t2 v (Dv.weak hv)
    | exc c s2 => rw [q] at h3; exact h3
    | stuck => rw [q] at h3; exact h3
  | false =>
    rw [if_neg Bool.false_ne_true] at h3 ⊢
    exact (h3.ret H1 (Xt.refl H1) t1).ret H1 (Xt.refl H1) t1 _ (Dv.weak (d := .dat _) (.bl _))
theorem sn_or1 {e : Expr} {m : Env → M D} (h : PE X e (tD (arOf X τ B E) true m)) : PE X (.BoolOp .Or [e] pos) (tD (arOf X τ B E) md fun env => do let r ← (do if ← truth (← m env) then M.ret true else M.ret false); M.ret (bl r)) := by
  refine (pe_one h).imp fun σ H Q ⟨env, s, R, t, h⟩ => ?_
  refine ⟨env, s, R, t, h.bnd.bnd.imp fun x s1 H1 e1 t1 h1 v dv => ?_⟩
  have h1 := h1.bnd
  obtain ⟨b, rfl, h2⟩ := h1.tru
  obtain rfl := dv.i.bl
  have h3 := h2 H1 (Xt.refl H1) t1
  cases b with
  | true =>
    rw [if_pos rfl] at h3
    exact (h3.ret H1 (Xt.refl H1) t1).ret H1 (Xt.refl H1) t1 _ (Dv.weak (d := .dat _) (.bl _))
  | false =>
    rw [if_neg Bool.false_ne_true] at h3
    exact (h3.ret H1 (Xt.refl H1) t1).ret H1 (Xt.refl H1) t1 _ (Dv.weak (d := .dat _) (.bl _))
theorem sn_or {e e2 : Expr} {es : List Expr} {m : Env → M D} {mr : Env → M Bool} (h : PE X e (tD (arOf X τ B E) true m)) (hr : PE X (.BoolOp .Or (e2 :: es) pos) (tD (arOf X τ B E) true fun env => do let r ← mr env; M.ret (bl r))) :
    PE X (.BoolOp .Or (e :: e2 :: es) pos) (tD (arOf X τ B E) md fun env => do let r ← (do if ← truth (← m env) then M.ret true else mr env); M.ret (bl r)) := by
  refine (pe_or h hr).imp fun σ H Q ⟨env, s, R, t, h⟩ => ?_
  refine ⟨env, s, R, t, h.bnd.bnd.imp fun x s1 H1 e1 t1 h1 v dv => ?_⟩
  have h1 := h1.bnd
  obtain ⟨b, rfl, h2⟩ := h1.tru
  obtain rfl := dv.i.bl
  refine ⟨b, rfl, ?_⟩
  have h3 := h2 H1 (Xt.refl H1) t1
  cases b with
  | false =>
    rw [if_neg Bool.false_ne_true] at h3 ⊢
    refine ⟨env, s1, R.xt t e1, t1, ?_⟩
    show Ok τ E H1 (M.bnd (mr env) _ s1) _
    unfold M.bnd Ok
    cases q : mr env s1 with
    | ok r s2 =>
      rw [q] at h3
      intro H2 e2 t2 v hv
      exact (h3 H2 e2 t2).ret H2 (Xt.refl H2) t2 v (Dv.weak hv)
    | exc c s2 => rw [q] at h3; exact h3
    | stuck => rw [q] at h3; exact h3
  | true =>
    rw [if_pos rfl] at h3 ⊢
    exact (h3.ret H1 (Xt.refl H1) t1).ret H1 (Xt.refl H1) t1 _ (Dv.weak (d := .dat _) (.bl _))
theorem sn_andT1 {e : Expr} {m : Env → M Bool} (h : PT X e (tT (arOf X τ B E) m)) : PW X (.BoolOp .And [e] pos) (tT (arOf X τ B E) fun env => do if ← m env then M.ret true else M.ret false) := by
  refine ⟨fun wh pins s σ H Q I z => (pw_and1 h).run wh pins s σ H Q I ?_⟩
  obtain ⟨env, s, R, t, h⟩ := z
  refine ⟨env, s, R, t, h.bnd.imp fun b s1 H1 e1 t1 h1 => ?_⟩
  cases b with
  | true => rw [if_pos rfl] at h1; exact h1.ret H1 (Xt.refl H1) t1
  | false => rw [if_neg Bool.false_ne_true] at h1; exact h1.ret H1 (Xt.refl H1) t1
theorem sn_andT {e e2 : Expr} {es : List Expr} {m mr : Env → M Bool} (h : PT X e (tT (arOf X τ B E) m)) (hr : PW X (.BoolOp .And (e2 :: es) pos) (tT (arOf X τ B E) mr)) :
    PW X (.BoolOp .And (e :: e2 :: es) pos) (tT (arOf X τ B E) fun env => do if ← m env then mr env else M.ret false) := by
  refine ⟨fun wh pins s σ H Q I z => (pw_and h hr).run wh pins s σ H Q I ?_⟩
  obtain ⟨env, s, R, t, h⟩ := z
  refine ⟨env, s, R, t, h.bnd.imp fun b s1 H1 e1 t1 h1 => ?_⟩
  cases b with
  | true =>
    rw [if_pos rfl] at h1 ⊢
    exact ⟨env, s1, R.xt t e1, t1, h1⟩
  | false =>
    rw [if_neg Bool.false_ne_true] at h1 ⊢
    exact h1.ret H1 (Xt.refl H1) t1
theorem sn_orT1 {e : Expr} {m : Env → M Bool} (h : PT X e (tT (arOf X τ B E) m)) : PW X (.BoolOp .Or [e] pos) (tT (arOf X τ B E) fun env => do if ← m env then M.ret true else M.ret false) := by
  refine ⟨fun wh pins s σ H Q I z => (pw_or1 h).run wh pins s σ H Q I ?_⟩
  obtain ⟨env, s, R, t, h⟩ := z
  refine ⟨env, s, R, t, h.bnd.imp fun b s1 H1 e1 t1 h1 => ?_⟩
  cases b with
  | true => rw [if_pos rfl] at h1; exact h1.ret H1 (Xt.refl H1) t1
  | false => rw [if_neg Bool.false_ne_true] at h1; exact h1.ret H1 (Xt.refl H1) t1
theorem sn_orT {e e2 : Expr} {es : List Expr} {m mr : Env → M Bool} (h : PT X e (tT (arOf X τ B E) m)) (hr : PW X (.BoolOp .Or (e2 :: es) pos) (tT (arOf X τ B E) mr)) :
    PW X (.BoolOp .Or (e :: e2 :: es) pos) (tT (arOf X τ B E) fun env => do if ← m env then M.ret true else mr env) := by
  refine ⟨fun wh pins s σ H Q I z => (pw_or h hr).run wh pins s σ H Q I ?_⟩
  obtain ⟨env, s, R, t, h⟩ := z
  refine ⟨env, s, R, t, h.bnd.imp fun b s1 H1 e1 t1 h1 => ?_⟩
  cases b with
  | false =>
    rw [if_neg Bool.false_ne_true] at h1 ⊢
    exact ⟨env, s1, R.xt t e1, t1, h1⟩
  | true =>
    rw [if_pos rfl] at h1 ⊢
    exact h1.ret H1 (Xt.refl H1) t1
theorem sn_ite {c x y : Expr} {mc : Env → M Bool} {m1 m2 : Env → M D} (hc : PT X c (tT (arOf X τ B E) mc)) (h1 : PE X x (tD (arOf X τ B E) md m1)) (h2 : PE X y (tD (arOf X τ B E) md m2)) : PE X (.IfExp c x y pos) (tD (arOf X τ B E) md fun env => do if ← mc env then m1 env else m2 env) := by
  refine (pe_ifExp hc h1 h2).imp fun σ H Q ⟨env, s, R, t, h⟩ => ?_
  refine ⟨env, s, R, t, h.bnd.imp fun b s1 H1 e1 t1 h1 => ?_⟩
  cases b with
  | true =>
    rw [if_pos rfl] at h1 ⊢
    exact ⟨env, s1, R.xt t e1, t1, h1⟩
  | false =>
    rw [if_neg Bool.false_ne_true] at h1 ⊢
    exact ⟨env, s1, R.xt t e1, t1, h1⟩

/-! ### subscripts, slices -/
theorem plainIx {b : Expr} (h : slicy b = false) : PlainIx b := by
  intro o i
  cases b <;> first
    | rfl
    | cases h
theorem sn_idx (g : Gd X) {l r : Expr} {m1 m2 : Env → M D} (hl : PE X l (tD (arOf X τ B E) false m1)) (hr : PE X r (tD (arOf X τ B E) false m2)) (hs : slicy r = false) :
    PE X (.Subscript l r pos) (tD (arOf X τ B E) md fun env => do let x ← m1 env; let y ← m2 env; M.of (opIdx x y)) := by
  refine (pe_ix (ix_all (τ := τ) g) hl hr (plainIx hs)).imp fun σ H Q ⟨env, s, R, t, h⟩ => ?_
  refine ⟨env, s, R, t, h.bnd.imp fun x s1 H1 e1 t1 h1 v dv => ?_⟩
  refine ⟨env, s1, R.xt t e1, t1, h1.bnd.imp fun y s2 H2 e2 t2 h2 u du => ?_⟩
  obtain ⟨d, ed, h3⟩ := h2.of
  exact ⟨_, x, y, d, ((R.xt t e1).xt t1 e2).sdom, Xt.dv e2 t1 R.tS dv, du, ed, fun w' H' al dw => h3 H' al.xt (al.town t2) w' dw.weak⟩
theorem sn_slL {l lo : Expr} {p2 : Pos} {m1 m2 : Env → M D} (hl : PE X l (tD (arOf X τ B E) false m1)) (hr : PE X lo (tD (arOf X τ B E) false m2)) :
    PE X (.Subscript l (.Slice (some lo) none none p2) pos) (tD (arOf X τ B E) md fun env => do let x ← m1 env; let i ← intOf (← m2 env); M.of (opCut x (some i) none)) := by
  refine (pe_slice (sl_all (τ := τ)) hl (po_some hr) po_none).imp fun σ H Q ⟨env, s, R, t, h⟩ => ?_
  refine ⟨env, s, R, t, h.bnd.imp fun x s1 H1 e1 t1 h1 v dv => ?_⟩
  refine ⟨env, s1, R.xt t e1, t1, h1.bnd.imp fun y s2 H2 e2 t2 h2 u du => ?_⟩
  obtain ⟨i, rfl, h3⟩ := h2.bnd.int
  obtain ⟨d, ed, h4⟩ := (h3 H2 (Xt.refl H2) t2).of
  exact ⟨i, du.i.int, _, x, d, ((R.xt t e1).xt t1 e2).sdom, Xt.dv e2 t1 R.tS dv, ed, fun w' H' al dw => h4 H' al.xt (al.town t2) w' dw.weak⟩
theorem sn_slH {l hi : Expr} {p2 : Pos} {m1 m2 : Env → M D} (hl : PE X l (tD (arOf X τ B E) false m1)) (hr : PE X hi (tD (arOf X τ B E) false m2)) :
    PE X (.Subscript l (.Slice none (some hi) none p2) pos) (tD (arOf X τ B E) md fun env => do let x ← m1 env; let i ← intOf (← m2 env); M.of (opCut x none (some i))) := by
  refine (pe_slice (sl_all (τ := τ)) hl po_none (po_some hr)).imp fun σ H Q ⟨env, s, R, t, h⟩ => ?_
  refine ⟨env, s, R, t, h.bnd.imp fun x s1 H1 e1 t1 h1 v dv => ?_⟩
  refine ⟨env, s1, R.xt t e1, t1, h1.bnd.imp fun y s2 H2 e2 t2 h2 u du => ?_⟩
  obtain ⟨i, rfl, h3⟩ := h2.bnd.int
  obtain ⟨d, ed, h4⟩ := (h3 H2 (Xt.refl H2) t2).of
  exact ⟨i, du.i.int, _, x, d, ((R.xt t e1).xt t1 e2).sdom, Xt.dv e2 t1 R.tS dv, ed, fun w' H' al dw => h4 H' al.xt (al.town t2) w' dw.weak⟩
theorem sn_sl2 {l lo hi : Expr} {p2 : Pos} {m1 m2 m3 : Env → M D} (hl : PE X l (tD (arOf X τ B E) false m1)) (hr : PE X lo (tD (arOf X τ B E) false m2)) (hh : PE X hi (tD (arOf X τ B E) false m3)) :
    PE X (.Subscript l (.Slice (some lo) (some hi) none p2) pos) (tD (arOf X τ B E) md fun env => do let x ← m1 env; let i ← intOf (← m2 env); let j ← intOf (← m3 env); M.of (opCut x (some i) (some j))) := by
  refine (pe_slice (sl_all (τ := τ)) hl (po_some hr) (po_some hh)).imp fun σ H Q ⟨env, s, R, t, h⟩ => ?_
  refine ⟨env, s, R, t, h.bnd.imp fun x s1 H1 e1 t1 h1 v dv => ?_⟩
  refine ⟨env, s1, R.xt t e1, t1, h1.bnd.imp fun y s2 H2 e2 t2 h2 u du => ?_⟩
  obtain ⟨i, rfl, h3⟩ := h2.bnd.int
  refine ⟨i, du.i.int, env, s2, (R.xt t e1).xt t1 e2, t2, (h3 H2 (Xt.refl H2) t2).bnd.imp fun z s3 H3 e3 t3 h5 w' dw => ?_⟩
  obtain ⟨j, rfl, h6⟩ := h5.bnd.int
  obtain ⟨d, ed, h4⟩ := (h6 H3 (Xt.refl H3) t3).of
  exact ⟨j, dw.i.int, _, x, d, (((R.xt t e1).xt t1 e2).xt t2 e3).sdom, Xt.dv (e2.trans e3) t1 R.tS dv, ed, fun w' H' al dw => h4 H' al.xt (al.town t3) w' dw.weak⟩
end
end BK
set_option Elab.async false
set_option linter.all false
set_option maxRecDepth 100000
set_option maxHeartbeats 2000000
/-! Targets. -/
namespace BK
open PySem L2
section
variable {P : Program} {w : World} {K : PySem.W.Frag} {τ : Tn} {B : Addr → Prop} {env : Env} {σ : St} {H : Hp}
theorem set_get {α : Type} {l : List α} {i j : Nat} {x y : α} (h : (l.set i x)[j]? = some y) : (j = i ∧ y = x) ∨ (j ≠ i ∧ l[j]? = some y) := by
  by_cases e : j = i
  · subst e
    rw [List.getElem?_set] at h
    simp only [if_true] at h
    split at h
    · exact .inl ⟨rfl, (Option.some.inj h).symm⟩
    · cases h
  · rw [List.getElem?_set_ne (Ne.symm e)] at h
    exact .inr ⟨e, h⟩
/-- a slot takes a value -/
theorem Rep.set {i : Nat} {v : V} {d : D} (R : Rep P w K τ B env σ H) (hv : Dv P w K τ (Av B env σ) true H v d) :
    Rep P w K τ B (env.set i (some (false, d))) (σ.set i (some v)) H ∧ ∀ a, Own (env.set i (some (false, d))) (σ.set i (some v)) a → Own env σ a := by
  have hO : ∀ a, Own (env.set i (some (false, d))) (σ.set i (some v)) a → Own env σ a := fun a ⟨j, e, h1, h2⟩ => by
    rcases set_get h1 with ⟨rfl, z⟩ | ⟨hj, h1⟩
    · cases z
    · rcases set_get h2 with ⟨z, _⟩ | ⟨_, h2⟩
      · exact absurd z hj
      · exact ⟨j, e, h1, h2⟩
  have hA : ∀ a, Av B (env.set i (some (false, d))) (σ.set i (some v)) a → Av B env σ a := fun a h => h.imp id (hO a)
  refine ⟨⟨by rw [List.length_set, List.length_set]; exact R.len, fun j e h => ?_, fun j e h => ?_, fun j k a d1 d2 h1 h2 h3 h4 => ?_, R.dom, R.tB⟩, hO⟩
  · rcases set_get h with ⟨rfl, z⟩ | ⟨hj, h⟩
    · cases z
      have hl : j < env.length := by
        have := (List.getElem?_eq_some_iff.mp h).1
        rwa [List.length_set] at this
      exact ⟨v, by rw [List.getElem?_set_self (by rw [R.len]; exact hl)], Dv.mono hA hv⟩
    · obtain ⟨u, h1, h2⟩ := R.val j e h
      exact ⟨u, by rw [List.getElem?_set_ne (Ne.symm hj)]; exact h1, Dv.mono hA h2⟩
  · rcases set_get h with ⟨rfl, z⟩ | ⟨hj, h⟩
    · cases z
    · obtain ⟨a, h1, h2, h3, h4⟩ := R.own j e h
      exact ⟨a, by rw [List.getElem?_set_ne (Ne.symm hj)]; exact h1, h2, h3, Dv.mono hA h4⟩
  · rcases set_get h1 with ⟨_, z⟩ | ⟨n1, h1⟩
    · cases z
    rcases set_get h2 with ⟨_, z⟩ | ⟨n2, h2⟩
    · cases z
    rw [List.getElem?_set_ne (Ne.symm n1)] at h3
    rw [List.getElem?_set_ne (Ne.symm n2)] at h4
    exact R.inj j k a d1 d2 h1 h2 h3 h4
/-- a slot is forgotten -/
theorem Rep.drop {i : Nat} (R : Rep P w K τ B env σ H) : Rep P w K τ B (env.set i none) (σ.set i none) H ∧ ∀ a, Own (env.set i none) (σ.set i none) a → Own env σ a := by
  have hO : ∀ a, Own (env.set i none) (σ.set i none) a → Own env σ a := fun a ⟨j, e, h1, h2⟩ => by
    rcases set_get h1 with ⟨rfl, z⟩ | ⟨hj, h1⟩
    · cases z
    · rcases set_get h2 with ⟨z, _⟩ | ⟨_, h2⟩
      · exact absurd z hj
      · exact ⟨j, e, h1, h2⟩
  have hA : ∀ a, Av B (env.set i none) (σ.set i none) a → Av B env σ a := fun a h => h.imp id (hO a)
  refine ⟨⟨by rw [List.length_set, List.length_set]; exact R.len, fun j e h => ?_, fun j e h => ?_, fun j k a d1 d2 h1 h2 h3 h4 => ?_, R.dom, R.tB⟩, hO⟩
  · rcases set_get h with ⟨rfl, z⟩ | ⟨hj, h⟩
    · cases z
    · obtain ⟨u, h1, h2⟩ := R.val j e h
      exact ⟨u, by rw [List.getElem?_set_ne (Ne.symm hj)]; exact h1, Dv.mono hA h2⟩
  · rcases set_get h with ⟨rfl, z⟩ | ⟨hj, h⟩
    · cases z
    · obtain ⟨a, h1, h2, h3, h4⟩ := R.own j e h
      exact ⟨a, by rw [List.getElem?_set_ne (Ne.symm hj)]; exact h1, h2, h3, Dv.mono hA h4⟩
  · rcases set_get h1 with ⟨_, z⟩ | ⟨n1, h1⟩
    · cases z
    rcases set_get h2 with ⟨_, z⟩ | ⟨n2, h2⟩
    · cases z
    rw [List.getElem?_set_ne (Ne.symm n1)] at h3
    rw [List.getElem?_set_ne (Ne.symm n2)] at h4
    exact R.inj j k a d1 d2 h1 h2 h3 h4
theorem Rep.wipe (R : Rep P w K τ B env σ H) : ∀ l : List Nat, Rep P w K τ B (wipeE env l) (L2.wipe σ l) H ∧ ∀ a, Own (wipeE env l) (L2.wipe σ l) a → Own env σ a
  | [] => ⟨R, fun _ h => h⟩
  | i :: l => by
    obtain ⟨R1, h1⟩ := Rep.wipe R l
    obtain ⟨R2, h2⟩ := R1.drop (i := i)
    exact ⟨R2, fun a h => h1 a (h2 a h)⟩
end
/-- a target: the value, then what it is to reach; only its own slots change -/
def tG (a : Ar) (tg : Tg) : TG := fun v σ H Q => ∃ env env' d, a.Rp env σ H ∧ Dr a.K (Av a.B env σ) H v d ∧ bindTg tg d env = some env' ∧
  ∀ σ', a.Rp env' σ' H → (∀ b, Own env' σ' b → Own env σ b) → (∀ j, j ∉ tgSl tg → σ'[j]? = σ[j]?) → σ'.length = σ.length → Q σ' H
def tGs (a : Ar) (ts : List Tg) : TGs := fun vs σ H Q => ∃ env env' ds, a.Rp env σ H ∧ Drs a.K (Av a.B env σ) H vs ds ∧ bindTgs ts ds env = some env' ∧
  ∀ σ', a.Rp env' σ' H → (∀ b, Own env' σ' b → Own env σ b) → (∀ j, j ∉ tgSls ts → σ'[j]? = σ[j]?) → σ'.length = σ.length → Q σ' H
section
variable {X : Cx} {τ : Tn} {B : Addr → Prop} {E : XK} {nm : Nm} {fnb : Str → Bool}
theorem nodupN {x : Str} {i : Nat} (h : (nm.N[i]? == some x) = true) : nm.N[i]? = some x := by simpa using h
theorem locB_of {sc : Scope} {x : Str} (h : locB sc x = true) : L2.Loc sc x := by
  unfold locB at h
  split at h
  · exact .inl (by assumption)
  · exact .inr (by assumption)
  · cases h
theorem visB_of {sc : Scope} {x : Str} (h : visB sc x = true) : Vis sc x := by
  unfold visB at h
  split at h
  · exact .inl (by assumption)
  · exact .inr (.inl (by assumption))
  · exact .inr (.inr (by assumption))
  · cases h
theorem glB_of {sc : Scope} {x : Str} (h : glB sc x = true) : sc.names.lookup x = some .globalImplicit := by
  unfold glB at h
  split at h
  · assumption
  · cases h
theorem asg_each {e : Expr} {es : List Expr} {env : PySem.Env} (h : starred e = false) : assignEach (e :: es) env = (false, assign e env) :: assignEach es env := by
  cases e <;> first
    | rfl
    | cases h
mutual
theorem sn_tg (g : Gd X) (hN : X.N = nm.N) (hf : ∀ x, fnb x = true → X.fn x = true) : ∀ (tg : Tg) (e : Expr), ckTg nm fnb X.env.scope tg e = true → PG X e (tG (arOf X τ B E) tg)
  | .v i, e, h => by
    cases e with
    | Name x p =>
      simp only [ckTg, Bool.and_eq_true, Bool.or_eq_true] at h
      obtain ⟨⟨h1, h2⟩, h3⟩ := h
      have h1 := nodupN h1
      have hf' : X.fn x = true ∨ X.env.scope.names.lookup x = some .local := h3.imp (hf x) (by simp)
      refine ⟨fun pins s σ H v u Q I r hq => (pg_name (i := i) (pos := p) g.nd (by rw [hN]; exact h1) (locB_of h2) hf').run pins s σ H v u Q I r ?_⟩
      obtain ⟨env, env', d, R, hd, hb, q⟩ := hq
      simp only [bindTg] at hb
      cases hb
      obtain ⟨R', hO⟩ := R.set (i := i) (d := .dat d) hd
      refine q _ R' hO (fun j hj => ?_) (by rw [List.length_set])
      rw [List.getElem?_set_ne]
      intro z
      exact hj (by simp [tgSl, z])
    | _ => exact absurd h (by simp [ckTg])
  | .t ts, e, h => by
    cases e with
    | Tuple es k p =>
      simp only [ckTg] at h
      obtain ⟨hp, hl, hst⟩ := sn_tgs g hN hf ts es h
      refine ⟨fun pins s σ H v u Q I r hq => (pg_tup (n := es.length) g.calm hp hl hst).run pins s σ H v u Q I r ?_⟩
      obtain ⟨env, env', d, R, hd, hb, q⟩ := hq
      cases hd with
      | tup hs hds =>
        simp only [bindTg] at hb
        refine ⟨_, _, rfl, hs, ?_, env, env', _, R, hds, hb, q⟩
        rw [hds.length]
        have key : ∀ (ts : List Tg) (ds : List PyData) (es : List Expr) (env env' : Env), bindTgs ts ds env = some env' → ckTgs nm fnb X.env.scope ts es = true → ds.length = es.length := by
          intro ts
          induction ts with
          | nil =>
            intro ds es env env' h1 h2
            cases ds with
            | nil =>
              cases es with
              | nil => rfl
              | cons => simp [ckTgs] at h2
            | cons => simp [bindTgs] at h1
          | cons t ts ih =>
            intro ds es env env' h1 h2
            cases ds with
            | nil => simp [bindTgs] at h1
            | cons d ds =>
              cases es with
              | nil => simp [ckTgs] at h2
              | cons e es =>
                simp only [bindTgs, Option.bind_eq_some_iff] at h1
                obtain ⟨m, _, h1⟩ := h1
                simp only [ckTgs, Bool.and_eq_true] at h2
                simp [ih ds es m env' h1 h2.2]
        exact key ts _ es env env' hb h
      | _ => simp [bindTg] at hb
    | _ => exact absurd h (by simp [ckTg])
theorem sn_tgs (g : Gd X) (hN : X.N = nm.N) (hf : ∀ x, fnb x = true → X.fn x = true) : ∀ (ts : List Tg) (es : List Expr), ckTgs nm fnb X.env.scope ts es = true →
    PGs X es (tGs (arOf X τ B E) ts) ∧ (assignEach es X.env).length = es.length ∧ (assignEach es X.env).findIdx? (·.1) = none
  | [], es, h => by
    cases es with
    | nil =>
      refine ⟨⟨fun pins s σ H vs us Q I r hq => pgs_nil.run pins s σ H vs us Q I r ?_⟩, rfl, rfl⟩
      obtain ⟨env, env', ds, R, hd, hb, q⟩ := hq
      cases ds with
      | nil =>
        cases hd
        simp only [bindTgs] at hb
        cases hb
        exact ⟨rfl, q σ R (fun _ h => h) (fun _ _ => rfl) rfl⟩
      | cons => simp [bindTgs] at hb
    | cons => simp [ckTgs] at h
  | t :: ts, es, h => by
    cases es with
    | nil => simp [ckTgs] at h
    | cons e es =>
      simp only [ckTgs, Bool.and_eq_true] at h
      have h1 := sn_tg g hN hf t e h.1
      obtain ⟨h2, h3, h4⟩ := sn_tgs g hN hf ts es h.2
      have ns : starred e = false := by
        clear h1
        cases e with
        | Starred => cases t <;> simp [ckTg] at h
        | _ => rfl
      have ea := asg_each (es := es) (env := X.env) ns
      refine ⟨⟨fun pins s σ H vs us Q I r hq => (pgs_cons h1 h2 (by rw [ea]; rfl)).run pins s σ H vs us Q I r ?_⟩, by rw [ea]; simp [h3], by rw [ea, List.findIdx?_cons]; simp [h4]⟩
      obtain ⟨env, env', ds, R, hd, hb, q⟩ := hq
      cases ds with
      | nil => simp [bindTgs] at hb
      | cons d ds =>
        cases hd with
        | cons hd1 hd2 =>
          simp only [bindTgs, Option.bind_eq_some_iff] at hb
          obtain ⟨m, hb1, hb2⟩ := hb
          refine ⟨_, _, rfl, env, m, d, R, hd1, hb1, fun σ1 R1 o1 k1 l1 => ?_⟩
          refine ⟨m, env', ds, R1, hd2.mono fun a ha => ha.imp id (o1 a), hb2, fun σ2 R2 o2 k2 l2 => ?_⟩
          refine q σ2 R2 (fun b hb => o1 b (o2 b hb)) (fun j hj => ?_) (l2.trans l1)
          simp only [tgSls, List.mem_append, not_or] at hj
          rw [k2 j hj.2, k1 j hj.1]
end
end
end BK
set_option Elab.async false
set_option linter.all false
set_option maxRecDepth 100000
set_option maxHeartbeats 2000000
/-! List comprehensions. -/
namespace BK
open PySem L2
section
variable {P : Program} {w : World} {K : PySem.W.Frag} {τ : Tn} {B S : Addr → Prop} {env env' : Env} {σ : St} {H H' : Hp} {s : Twn}
/-! ### the slots -/
theorem wipe_get {σ : St} {i : Nat} : ∀ {vs : List Nat}, i ∈ vs → (L2.wipe σ vs)[i]? = if i < σ.length then some none else none
  | [], h => by cases h
  | v :: vs, h => by
    unfold L2.wipe
    by_cases e : v = i
    · subst e
      rw [List.getElem?_set, if_pos rfl, wipe_length]
    · rw [List.getElem?_set_ne e]
      exact wipe_get ((List.mem_cons.mp h).resolve_left fun z => e z.symm)
theorem wipe_eq {σ σ' : St} {vs : List Nat} (hl : σ'.length = σ.length) (h : ∀ j, j ∉ vs → σ'[j]? = σ[j]?) : L2.wipe σ' vs = L2.wipe σ vs := by
  apply List.ext_getElem?
  intro j
  by_cases hj : j ∈ vs
  · rw [wipe_get hj, wipe_get hj, hl]
  · rw [wipe_out hj, wipe_out hj, h j hj]
theorem wipeE_out {env : Env} {i : Nat} : ∀ {vs : List Nat}, i ∉ vs → (wipeE env vs)[i]? = env[i]?
  | [], _ => rfl
  | v :: vs, h => by
    unfold wipeE
    rw [List.getElem?_set_ne (fun z => h (by simp [z]))]
    exact wipeE_out fun z => h (List.mem_cons_of_mem _ z)
mutual
theorem bind_out : ∀ (tg : Tg) (d : PyData) (env env' : Env) (j : Nat), bindTg tg d env = some env' → j ∉ tgSl tg → env'[j]? = env[j]?
  | .v i, d, env, env', j, h, hj => by
    simp only [bindTg] at h
    cases h
    unfold setE
    rw [List.getElem?_set_ne]
    intro z
    exact hj (by simp [tgSl, z])
  | .t ts, d, env, env', j, h, hj => by
    cases d with
    | tuple ds =>
      simp only [bindTg] at h
      exact binds_out ts ds env env' j h hj
    | _ => simp [bindTg] at h
theorem binds_out : ∀ (ts : List Tg) (ds : List PyData) (env env' : Env) (j : Nat), bindTgs ts ds env = some env' → j ∉ tgSls ts → env'[j]? = env[j]?
  | [], ds, env, env', j, h, hj => by
    cases ds with
    | nil =>
      simp only [bindTgs] at h
      cases h
      rfl
    | cons => simp [bindTgs] at h
  | t :: ts, ds, env, env', j, h, hj => by
    cases ds with
    | nil => simp [bindTgs] at h
    | cons d ds =>
      simp only [bindTgs, Option.bind_eq_some_iff] at h
      obtain ⟨m, h1, h2⟩ := h
      simp only [tgSls, List.mem_append, not_or] at hj
      rw [binds_out ts ds m env' j h2 hj.2, bind_out t d env m j h1 hj.1]
end
theorem ownFree_of {l : List Nat} (h : ownFree env l = true) {i : Nat} {d : D} (hi : env[i]? = some (some (true, d))) : i ∉ l := fun z => by
  have := List.all_eq_true.mp h i z
  rw [hi] at this
  cases this

/-! ### the list that is made -/
theorem upd_ke {D : Addr} {xs ys : List V} (h : H D = some (.lst ys)) : Ke (fun a => a = D) H (upd H D (.lst xs)) := by
  refine ⟨fun a o n _ e => by rw [upd_ne n]; exact e, fun a n => ?_, fun a zs r => ?_⟩
  · by_cases e : a = D
    · rw [e, upd_same]; simp
    · rw [upd_ne e]; exact n
  · have e : a ≠ D := fun e => by
      rcases r with r | ⟨o, r⟩ <;> rw [e, h] at r <;> cases r
    unfold Rd
    rw [upd_ne e]
    exact r
theorem tabs_upd {T : List (Addr × Str)} {D : Addr} {xs ys : List V} (h : H D = some (.lst ys)) (t : LamX.Tabs T H) : LamX.Tabs T (upd H D (.lst xs)) := fun p hp => by
  obtain ⟨ps, h1, h2, h3⟩ := t p hp
  refine ⟨ps, ?_, h2, fun pos cv hc => ?_⟩
  · rw [upd_ne (fun e => by rw [e, h] at h1; cases h1)]
    exact h1
  · obtain ⟨c, e1, e2⟩ := h3 pos cv hc
    exact ⟨c, e1, by rw [upd_ne (fun e => by rw [e, h] at e2; cases e2)]; exact e2⟩
theorem Scr.upd {D : Addr} {o : HO} (hn : τ.dy = true → D ≠ τ.sa) (t : Scr τ H) : Scr τ (upd H D o) := by
  unfold Scr at t ⊢
  by_cases hd : τ.dy = true
  · rw [if_pos hd] at t ⊢
    unfold Rd
    rw [upd_ne (fun z => hn hd z.symm)]
    exact t
  · rw [if_neg hd] at t ⊢
    exact t
theorem TownR.upd {D : Addr} {xs ys : List V} (h : H D = some (.lst ys)) (hn : τ.dy = true → D ≠ τ.sa) (t : TownR τ H s) : TownR τ (upd H D (.lst xs)) s := by
  refine ⟨?_, ?_, t.2.2.1, tabs_upd h t.2.2.2.1, t.2.2.2.2.upd hn⟩
  · rw [upd_ne (fun e => by have z := t.1; rw [e, h] at z; cases z)]
    exact t.1
  · rw [upd_ne (fun e => by have z := t.2.1; rw [e, h] at z; cases z)]
    exact t.2.1
/-- an address that was free is kept out from then on -/
theorem Rep.guardX {p : Addr} (R : Rep P w K τ B env σ H) (t : TownR τ H s) (hp : H p = none) (hq : H' p ≠ none) (x : Xt τ H H') : Rep P w K τ (fun a => B a ∨ a = p) env σ H' := by
  have hA : ∀ a, Av (fun a => B a ∨ a = p) env σ a → Av B env σ a ∨ a = p := fun a h => by
    rcases h with (h | h) | h
    · exact .inl (.inl h)
    · exact .inr h
    · exact .inl (.inr h)
  have hT : ∀ a, τ.T a → Av (fun a => B a ∨ a = p) env σ a := fun a h => .inl (.inl (R.tB a (.inl h)))
  have dv : ∀ {md : Bool} {v : V} {d : D}, Dv P w K τ (Av B env σ) md H v d → Dv P w K τ (Av (fun a => B a ∨ a = p) env σ) md H' v d := fun {md v d} h => Xt.dv x t hT (Dv.mono hA (Dv.fresh hp h))
  refine ⟨R.len, fun j e h => ?_, fun j e h => ?_, R.inj, fun a h => ?_, fun a h => .inl (R.tB a h)⟩
  · obtain ⟨u, h1, h2⟩ := R.val j e h
    exact ⟨u, h1, dv h2⟩
  · obtain ⟨a, h1, h2, h3, h4⟩ := R.own j e h
    exact ⟨a, h1, fun z => z.elim h2 fun z => h3 (by rw [z]; exact hp), x.2.1 a h3, dv h4⟩
  · rcases h with h | h
    · exact x.2.1 a (R.dom a h)
    · rw [h]; exact hq
end

/-! ### the turns -/
def turnOf (own : List Nat) (tg : Tg) (mt : Env → M Bool) (me : Env → M D) (env : Env) (x : PyData) : M (Option PyData) := M.nox (do
  let e ← M.of (bindTg tg x (wipeE env own))
  if ← mt e then (do let y ← datOf (← me e); M.ret (some y)) else M.ret none)
theorem lcGo_nox {f : PyData → M (Option PyData)} : ∀ (xs : List PyData) (s s' : Twn) (c : Nat), lcGo (fun x => M.nox (f x)) xs s ≠ .exc c s'
  | [], _, _, _ => fun h => by cases h
  | x :: xs, s, s', c => fun h => by
    have h : M.bnd (M.nox (f x)) (fun y => M.bnd (lcGo (fun x => M.nox (f x)) xs) fun r => M.ret _) s = .exc c s' := h
    unfold M.bnd at h
    split at h
    · rename_i a s1 _
      dsimp only at h
      split at h
      · cases h
      · rename_i c' s2 e
        exact lcGo_nox xs _ _ _ e
      · cases h
    · rename_i c' s1 e
      unfold M.nox at e
      split at e <;> cases e
    · cases h
theorem Wp.noE {α : Type} {r : Res α} {Q : α → Twn → Prop} {E : Nat → Twn → Prop} (h : Wp r Q E) (n : ∀ c s, r ≠ .exc c s) : Wp r Q fun _ _ => False := by
  cases r with
  | ok a s => exact h
  | exc c s => exact (n c s rfl).elim
  | stuck => exact h
theorem Wp.nox {α : Type} {x : M α} {s : Twn} {Q : α → Twn → Prop} {E : Nat → Twn → Prop} (h : Wp (M.nox x s) Q E) : Wp (x s) Q fun _ _ => False := by
  unfold M.nox at h
  cases e : x s with
  | ok a s' => rw [e] at h; exact h
  | exc c s' => rw [e] at h; exact h.elim
  | stuck => rw [e] at h; exact h.elim
/-- a heap further on -/
theorem Ok.from {α : Type} {τ : Tn} {E : XK} {H : Hp} {r : Res α} {Q : α → Twn → Prop} (h : Wp r Q fun _ _ => False) : Ok τ E H r fun a s _ => Q a s := Wp.mono h (fun _ _ q _ _ _ => q) fun _ _ z => z.elim

/-! the readings for any set that is kept out -/
def tGx (a : Ar) (tg : Tg) : TG := fun v σ H Q => ∃ B, tG { a with B := B } tg v σ H Q
def tDx (a : Ar) (m : Env → M D) : TE := fun σ H Q => ∃ B, tD { a with B := B } true m σ H Q
def tTx (a : Ar) (m : Env → M Bool) : TT := fun σ H Q => ∃ B, tT { a with B := B } m σ H Q
/-- what is newly made: it may be written on -/
def tDF (a : Ar) (m : Env → M D) : TE := fun σ H Q => ∃ env s, a.Rp env σ H ∧ TownR a.τ H s ∧ Ok a.τ a.E H (m env s) fun d _ H' => ∀ p, H p = none → H' p ≠ none → Dv a.P a.w a.K a.τ (fun b => Av a.B env σ b ∨ b = p) false H' (.ref p) d → Q (.ref p) H'
theorem Dv.keep {P : Program} {w : World} {K : PySem.W.Frag} {τ : Tn} {S : Addr → Prop} {H : Hp} {p : Addr} {d : D} (h : Dv P w K τ (fun b => S b ∨ b = p) false H (.ref p) d) (n : ¬ S p) : Dv P w K τ S true H (.ref p) d := by
  have hs : ∀ a, S a → S a ∨ a = p := fun a z => .inl z
  have h := Dv.mono hs h
  cases d with
  | dat d =>
    rcases (show DrI K S H (.ref p) d from h) with h | ⟨a, xs, ds, e1, e2, e, q⟩
    · exact h
    · cases e1
      subst e2
      exact Dr.lst e n q
  | dK kvs =>
    obtain ⟨a, e, _, m, q⟩ := h
    cases e
    exact ⟨p, rfl, fun _ => n, m, q⟩
  | dT kvs =>
    obtain ⟨a, e, _, m, q⟩ := h
    cases e
    exact ⟨p, rfl, fun _ => n, m, q⟩
  | fn i => exact h
  | town => exact h
  | scr => exact h
theorem tDF_of {a : Ar} {md : Bool} {m : Env → M D} {σ : L2.St} {H : Hp} {Q : VK} (h : tD a md m σ H Q) : tDF a m σ H Q := by
  obtain ⟨env, s, R, t, h⟩ := h
  exact ⟨env, s, R, t, h.imp fun d s1 H1 e1 t1 q p hp _ hd => q _ (Dv.weak (Dv.keep hd fun z => R.sdom p z hp))⟩
section
variable {X : Cx} {τ : Tn} {B : Addr → Prop} {E : XK} {md : Bool} {pos : Pos} {nm : Nm}
theorem ownOf_map (own : List Nat) : (ownOf nm own).map (·.2) = own := by
  unfold ownOf
  rw [List.map_map]
  exact List.map_id'' (fun _ => rfl) _
theorem lc_imp {own : List Nat} {tg : Tg} {mi : Env → M (List PyData)} {mt : Env → M Bool} {me : Env → M D} (ho : (tgSl tg).all own.contains = true) (σ : L2.St) (H : Hp) (Q : VK) :
    tDF (arOf X τ B E) (fun env => do
      let xs ← mi env
      if ownFree env own then
        let r ← lcGo (turnOf own tg mt me env) xs
        if fits r then M.ret (lst r) else M.non
      else M.non) σ H Q →
    tLc (tI (arOf X τ B E) false mi) (tGx (arOf X τ B fun _ _ _ => False) tg) (tTx (arOf X τ B fun _ _ _ => False) mt) (tDx (arOf X τ B fun _ _ _ => False) me) own σ H Q := by
  have hsub : ∀ j, j ∈ tgSl tg → j ∈ own := fun j hj => by simpa using List.all_eq_true.mp ho j hj
  refine fun ⟨env, s, R, t, h⟩ => ?_
  refine ⟨env, s, R, t, h.bnd.imp fun ds s1 H1 e1 t1 h1 J hJ D hD => ?_⟩
  obtain ⟨hf, h1⟩ := h1.ifN
  have h2 := Wp.bnd h1
  have h3 : Wp (lcGo (turnOf own tg mt me env) ds s1) (fun r s' => fits r = true ∧ ∀ H', Xt τ H1 H' → TownR τ H' s' → ∀ p, H p = none → H' p ≠ none → Dv X.prog X.w X.K τ (fun b => Av B env σ b ∨ b = p) false H' (.ref p) (lst r) → Q (.ref p) H') fun _ _ => False :=
    (Wp.mono h2 (fun r s' q => ⟨(Wp.ifN q).1, (Wp.ifN q).2⟩) fun c s' q => q).noE fun c s' => lcGo_nox ds s1 s' c
  have R1 : Rep X.prog X.w X.K τ B env σ H1 := R.xt t e1
  have hdom : ∀ a, Av B env σ a → a ≠ D := fun a h e => R1.sdom a h (by rw [e]; exact hD)
  let S : Addr → Prop := fun a => Av B env σ a ∨ a = D
  let Pv : Nat → Hp → Prop := fun i H0 => ∃ s accV accD, TownR τ H0 s ∧ Xt τ H1 H0 ∧ H0 D = some (.lst accV) ∧ Drs X.K S H0 accV accD ∧
    Wp (lcGo (turnOf own tg mt me env) (ds.drop i) s) (fun r s' => fits (accD ++ r) = true ∧ ∀ H', Xt τ H1 H' → TownR τ H' s' → ∀ p, H p = none → H' p ≠ none → Dv X.prog X.w X.K τ (fun b => Av B env σ b ∨ b = p) false H' (.ref p) (lst (accD ++ r)) → Q (.ref p) H') fun _ _ => False
  refine ⟨fun i m H => m = ds.length - i ∧ i ≤ ds.length ∧ Pv i H, ⟨ds.length, by simp, Nat.zero_le _, s1, [], [], (Al.new hD).town t1, (Al.new hD).xt, upd_same, .nil, h3⟩, ?_⟩
  rintro i m H2 ⟨rfl, hil, s2, accV, accD, t2, e2, hD2, ha, hw⟩
  have hS : ∀ a, S a → Av B env σ a ∨ H1 a = none := fun a z => z.imp id fun z => by rw [z]; exact hD
  have hTS : ∀ a, τ.T a → S a := fun a z => .inl (R1.tS a z)
  obtain ⟨hgo, hst⟩ := hJ S i H2 hS hTS e2
  by_cases hlt : i < ds.length
  · refine .inr ?_
    have hdi : ds[i]? = some ds[i] := by simp [hlt]
    obtain ⟨g1, g2⟩ := hgo _ hdi
    refine ⟨g1, Pv (i + 1), fun H' p' => ⟨ds.length - (i + 1), by omega, rfl, hlt, p'⟩, fun x H3 hy => ?_⟩
    obtain ⟨al, dx⟩ := g2 x H3 hy
    have e3 : Xt τ H1 H3 := e2.trans al.xt
    have t3 := al.town t2
    have hD3 : H3 D = some (.lst accV) := al _ _ hD2
    have R3 := R1.guardX (H' := H3) t1 hD (by rw [hD3]; simp) e3
    obtain ⟨R3w, hOw⟩ := R3.wipe own
    rw [List.drop_eq_getElem_cons hlt] at hw
    have hw := Wp.nox (Wp.bnd hw)
    obtain ⟨env', hbt, hw⟩ := Wp.of (Wp.bnd hw)
    refine ⟨fun a => B a ∨ a = D, wipeE env own, env', ds[i], R3w, Dr.mono (fun a z => ?_) _ _ dx, hbt, fun σ4 R4 hO4 hout hlen => ⟨wipe_eq (by rw [hlen, wipe_length]) (fun j hj => by rw [hout j fun z => hj (hsub j z), wipe_out hj]), ?_⟩⟩
    · rcases z with (z | z) | z
      · exact .inl (.inl z)
      · exact .inr z
      · exact .inl (.inr (hOw a z))
    · have back : ∀ a, S a → Av (fun a => B a ∨ a = D) env' σ4 a := fun a z => by
        rcases z with (z | z) | z
        · exact .inl (.inl z)
        · obtain ⟨j, d, q1, q2⟩ := z
          have hj := ownFree_of hf q1
          exact .inr ⟨j, d, by rw [bind_out tg _ _ _ j hbt fun z => hj (hsub j z), wipeE_out hj]; exact q1, by rw [hout j fun z => hj (hsub j z), wipe_out hj]; exact q2⟩
        · exact .inl (.inr z)
      refine ⟨fun a => B a ∨ a = D, env', s2, R4, t3, (Ok.from (Wp.bnd hw)).imp fun b s5 H5 e5 t5 hw => ?_⟩
      have hD5 : H5 D = some (.lst accV) := e5.1 D _ (fun z => hdom D (R1.tS D z) rfl) (fun _ z => by cases z) hD3
      cases b with
      | false =>
        show Pv (i + 1) H5
        rw [if_neg Bool.false_ne_true] at hw
        have hw : Wp ((lcGo (turnOf own tg mt me env) (ds.drop (i + 1)) >>= fun r => M.ret r) s5) _ _ := hw
        refine ⟨s5, accV, accD, t5, e3.trans e5, hD5, Ke.drs e5 hTS (al.drs ha), ?_⟩
        exact Wp.bnd hw
      | true =>
        show tDx _ me σ4 H5 _
        rw [if_pos rfl] at hw
        refine ⟨fun a => B a ∨ a = D, env', s5, R4.xt t3 e5, t5, (Ok.from (Wp.bnd hw)).imp fun d s6 H6 e6 t6 hw v dv => ?_⟩
        have hD6 : H6 D = some (.lst accV) := e6.1 D _ (fun z => hdom D (R1.tS D z) rfl) (fun _ z => by cases z) hD5
        cases d with
        | dat d =>
          have hw : Wp ((lcGo (turnOf own tg mt me env) (ds.drop (i + 1)) >>= fun r => M.ret (d :: r)) s6) _ _ := hw
          have hw := Wp.bnd hw
          have dv : Dr X.K (Av (fun a => B a ∨ a = D) env' σ4) H6 v d := dv
          have ha6 := Ke.drs e6 hTS (Ke.drs e5 hTS (al.drs ha))
          have hz : accV.length < sizeLine := by
            have key : ∃ r : List PyData, fits (accD ++ d :: r) = true := by
              cases e : lcGo (turnOf own tg mt me env) (ds.drop (i + 1)) s6 with
              | ok r s' => rw [e] at hw; exact ⟨r, (show fits (accD ++ d :: r) = true ∧ _ from hw).1⟩
              | exc c s' => rw [e] at hw; exact hw.elim
              | stuck => rw [e] at hw; exact hw.elim
            obtain ⟨r, hr⟩ := key
            have := fits_of hr
            rw [ha6.length]
            simp at this
            omega
          have ku := upd_ke (xs := accV ++ [v]) hD6
          have kS : ∀ a, a = D → S a := fun a z => .inr z
          refine ⟨accV, hD6, hz, s6, accV ++ [v], accD ++ [d], t6.upd hD6 (fun z q => hdom D (.inl (R1.tB D (.inr ⟨z, q⟩))) rfl), ?_, upd_same, (ku.drs kS ha6).append (.cons (ku.dr kS (Dr.mono back _ _ dv)) .nil), ?_⟩
          · exact Ke.ext ((e3.trans e5).trans e6) ku fun c z => .inr (by rw [z]; exact hD)
          · refine Wp.mono hw (fun r s' q => ?_) fun _ _ z => z
            have q : fits (accD ++ d :: r) = true ∧ _ := q
            have e : accD ++ [d] ++ r = accD ++ d :: r := by simp
            rw [e]
            exact q
        | dK _ => exact (show False from hw).elim
        | dT _ => exact (show False from hw).elim
        | fn _ => exact (show False from hw).elim
        | town => exact (show False from hw).elim
        | scr => exact (show False from hw).elim
  · have e : i = ds.length := by omega
    subst e
    refine .inl ⟨hst (Nat.le_refl _), ?_⟩
    rw [List.drop_length] at hw
    have hw : fits (accD ++ []) = true ∧ _ := hw
    refine hw.2 H2 e2 t2 D ?_ (by rw [hD2]; simp) ?_
    · cases q : H D with
      | none => rfl
      | some o => exact absurd hD (e1.2.1 D (by rw [q]; simp))
    · rw [List.append_nil]
      exact Or.inr ⟨D, accV, accD, rfl, rfl, hD2, ha⟩
theorem sn_lc {elt tgx iter : Expr} {ifs : List Expr} {scope : Scope} {own : List Nat} {tg : Tg} {mi : Env → M (List PyData)} {mt : Env → M Bool} {me : Env → M D} (hc : X.calm = true) (hN : X.N.Nodup) (hNN : X.N = nm.N)
    (hi : PI X tgx iter (tI (arOf X τ B E) false mi)) (hb : blkC nm.N X.env.scope scope (ownOf nm own) = true) (ho : (tgSl tg).all own.contains = true)
    (hg : ∀ (s : Shared) (H : Hp) (C : Addr) (cl : List (Str × Addr)) (fp : List Addr), PG (X.blk s H scope (compEnvC scope cl C X.env) fp) tgx (tGx (arOf X τ B fun _ _ _ => False) tg))
    (ht : ∀ (s : Shared) (H : Hp) (C : Addr) (cl : List (Str × Addr)) (fp : List Addr), PTs (X.blk s H scope (compEnvC scope cl C X.env) fp) ifs (tTx (arOf X τ B fun _ _ _ => False) mt))
    (he : ∀ (s : Shared) (H : Hp) (C : Addr) (cl : List (Str × Addr)) (fp : List Addr), PE (X.blk s H scope (compEnvC scope cl C X.env) fp) elt (tDx (arOf X τ B fun _ _ _ => False) me))
    (hs : ∀ x, foldedSetIterable iter X.env x = pure x) :
    PE X (.ListComp elt [⟨tgx, iter, ifs, 0⟩] scope pos) (tD (arOf X τ B E) md fun env => do
      let xs ← mi env
      if ownFree env own then
        let r ← lcGo (turnOf own tg mt me env) xs
        if fits r then M.ret (lst r) else M.non
      else M.non) := by
  have ok : BlkOk X.N X.env.scope scope (ownOf nm own) := blkOk_by (by rw [hNN]; exact hb)
  refine (pe_lc hc hN hi ok hg ht he hs).imp fun σ H Q h => ?_
  rw [ownOf_map]
  exact lc_imp ho σ H Q (tDF_of h)
theorem sn_lcF {elt tgx iter : Expr} {ifs : List Expr} {scope : Scope} {own : List Nat} {tg : Tg} {mi : Env → M (List PyData)} {mt : Env → M Bool} {me : Env → M D} (hc : X.calm = true) (hN : X.N.Nodup) (hNN : X.N = nm.N)
    (hi : PI X tgx iter (tI (arOf X τ B E) false mi)) (hb : blkC nm.N X.env.scope scope (ownOf nm own) = true) (ho : (tgSl tg).all own.contains = true)
    (hg : ∀ (s : Shared) (H : Hp) (C : Addr) (cl : List (Str × Addr)) (fp : List Addr), PG (X.blk s H scope (compEnvC scope cl C X.env) fp) tgx (tGx (arOf X τ B fun _ _ _ => False) tg))
    (ht : ∀ (s : Shared) (H : Hp) (C : Addr) (cl : List (Str × Addr)) (fp : List Addr), PTs (X.blk s H scope (compEnvC scope cl C X.env) fp) ifs (tTx (arOf X τ B fun _ _ _ => False) mt))
    (he : ∀ (s : Shared) (H : Hp) (C : Addr) (cl : List (Str × Addr)) (fp : List Addr), PE (X.blk s H scope (compEnvC scope cl C X.env) fp) elt (tDx (arOf X τ B fun _ _ _ => False) me))
    (hs : ∀ x, foldedSetIterable iter X.env x = pure x) :
    PE X (.ListComp elt [⟨tgx, iter, ifs, 0⟩] scope pos) (tDF (arOf X τ B E) fun env => do
      let xs ← mi env
      if ownFree env own then
        let r ← lcGo (turnOf own tg mt me env) xs
        if fits r then M.ret (lst r) else M.non
      else M.non) := by
  have ok : BlkOk X.N X.env.scope scope (ownOf nm own) := blkOk_by (by rw [hNN]; exact hb)
  refine (pe_lc hc hN hi ok hg ht he hs).imp fun σ H Q h => ?_
  rw [ownOf_map]
  exact lc_imp ho σ H Q h
end
end BK
set_option Elab.async false
set_option linter.all false
set_option maxRecDepth 100000
set_option maxHeartbeats 2000000
/-! What loops walk; calls. -/
namespace BK
open PySem L2
section
variable {X : Cx} {τ : Tn} {B : Addr → Prop} {E : XK} {md : Bool} {pos : Pos} {tg : Expr}

/-! ### iterators -/
def iSeq (K : PySem.W.Frag) (tl : TE) : TI := fun σ H R => tl σ H fun x H1 => ∃ a, x = .ref a ∧ (((∃ xs, SqL K H1 a xs) ∧ R (Itl K a) H1) ∨ ((∃ xs, SqT K H1 a xs) ∧ R (Itt K a) H1))
theorem it_at {pins : List (Addr × Obj)} {σ : St} {H : Hp} {z : Shared} {R : It → Hp → Prop} {J : It} {o : Obj} {tn : Nat → Heap → Prop} (I : Inv X pins σ H z) (T : Turn X.prog X.w X.K tg J [z.heap.objs.size] z.heap.objs.size tn) (h0 : tn 0 (z.heap.push o)) (q : R J H) :
    PIE X pins σ tg R (.ref z.heap.objs.size) { z with heap := z.heap.push o } :=
  ⟨z.heap.objs.size, [z.heap.objs.size], tn, J, H, rfl, I.kept (t' := z.toks) fun _ _ k => Heap.get?_push_of_some _ k, T, h0, fun c hc => by
    obtain rfl : c = z.heap.objs.size := by simpa using hc
    exact I.fpOk (Nat.le_refl _) (I.hok.fresh (Nat.le_refl _)), q⟩
theorem pi_seq {l : Expr} {tl : TE} (hl : PE X l tl) : PI X tg l (iSeq X.K tl) := ⟨fun pins z σ H R I h => thn (hl.run pins z σ H _ I h) fun u z1 hz => by
  obtain ⟨x, H1, I1, rx, a, rfl, q⟩ := hz
  cases rx
  rcases q with ⟨⟨xs, hx⟩, q⟩ | ⟨⟨xs, hx⟩, q⟩
  · obtain ⟨is_, _, pl, _⟩ := I1.list hx
    exact wpAny_pyIter_list pl.isList (it_at I1 (turn_list a _) ⟨_, Heap.get?_push_size _ rfl, rfl, rfl⟩ q)
  · obtain ⟨is_, _, pt, _⟩ := I1.tuple hx
    exact wpAny_pyIter_tuple (show z1.heap.IsTuple a is_.toArray from pt) (it_at I1 (turn_tuple a _) ⟨_, Heap.get?_push_size _ rfl, rfl, rfl⟩ q)⟩
section
variable {K : PySem.W.Frag} {S R : Addr → Prop} {H : Hp} {a : Addr} {xs : List V} {ds : List PyData}
theorem it_list (h : H a = some (.lst xs)) (n : ¬ R a) (hd : Drs K S H xs ds) : ItOk K S R H (Itl K a) ds := by
  intro S' i H' hS hR ke
  have h' : SqL K H' a xs := SqL.of (ke.1 a _ n (fun _ z => by cases z) h)
  refine ⟨fun d hi => ?_, fun hi => ⟨xs, h', by rw [hd.length]; exact hi⟩⟩
  obtain ⟨v, e, r⟩ := hd.get hi
  refine ⟨⟨xs, v, h', e⟩, fun x H'' ⟨e1, e2⟩ => ?_⟩
  subst e1
  refine ⟨Al.refl _, ?_⟩
  have := e2 xs h'
  rw [e] at this
  cases this
  exact ke.dr hR (Dr.shift hS _ _ r)
theorem it_tup (h : SqT K H a xs) (hd : Drs K S H xs ds) : ItOk K S R H (Itt K a) ds := by
  intro S' i H' hS hR ke
  have h' : SqT K H' a xs := ke.sqt h
  refine ⟨fun d hi => ?_, fun hi => ⟨xs, h', by rw [hd.length]; exact hi⟩⟩
  obtain ⟨v, e, r⟩ := hd.get hi
  refine ⟨⟨xs, v, h', e⟩, fun x H'' ⟨e1, e2⟩ => ?_⟩
  subst e1
  refine ⟨Al.refl _, ?_⟩
  have := e2 xs h'
  rw [e] at this
  cases this
  exact ke.dr hR (Dr.shift hS _ _ r)
theorem it_rng {n : Int} : ItOk K S R H (Itr 0 n.toNat) (rngD n) := by
  intro S' i H' hS hR ke
  have hl : (rngD n).length = n.toNat := by simp [rngD]
  refine ⟨fun d hi => ?_, fun hi => by rw [hl] at hi; exact hi⟩
  have hlt : i < n.toNat := by
    have := (List.getElem?_eq_some_iff.mp hi).1
    rwa [hl] at this
  refine ⟨hlt, fun x H'' ⟨e1, e2⟩ => ?_⟩
  subst e1 e2
  refine ⟨Al.refl _, ?_⟩
  have : d = .int (i : Int) := by
    simp only [rngD, List.getElem?_map, List.getElem?_range hlt, Option.map_some, Option.some.injEq] at hi
    exact hi.symm
  rw [this, Int.zero_add]
  exact .int _
theorem it_zip {b : Addr} {ys : List V} {es : List PyData} (h1 : SqT K H a xs) (h2 : SqT K H b ys) (d1 : Drs K S H xs ds) (d2 : Drs K S H ys es) : ItOk K S R H (RZ.ItzT K a b) (zipD ds es) := by
  intro S' i H' hS hR ke
  have k1 : SqT K H' a xs := ke.sqt h1
  have k2 : SqT K H' b ys := ke.sqt h2
  have zl : ∀ (ds es : List PyData) (i : Nat), (∀ d, (zipD ds es)[i]? = some d → ∃ x y, ds[i]? = some x ∧ es[i]? = some y ∧ d = .tuple [x, y]) ∧ ((zipD ds es).length ≤ i → ds.length ≤ i ∨ es.length ≤ i) := by
    intro ds
    induction ds with
    | nil => intro es i; exact ⟨fun d h => by simp [zipD] at h, fun _ => .inl (Nat.zero_le _)⟩
    | cons x ds ih =>
      intro es i
      cases es with
      | nil => exact ⟨fun d h => by simp [zipD] at h, fun _ => .inr (Nat.zero_le _)⟩
      | cons y es =>
        cases i with
        | zero => exact ⟨fun d h => ⟨x, y, rfl, rfl, by simp [zipD] at h; exact h.symm⟩, fun h => by simp [zipD] at h⟩
        | succ i =>
          obtain ⟨p, q⟩ := ih es i
          refine ⟨fun d h => ?_, fun h => ?_⟩
          · obtain ⟨u, v, e1, e2, e3⟩ := p d (by simpa [zipD] using h)
            exact ⟨u, v, by simpa using e1, by simpa using e2, e3⟩
          · have := q (by simpa [zipD] using h)
            simpa using this
  obtain ⟨z1, z2⟩ := zl ds es i
  refine ⟨fun d hi => ?_, fun hi => ⟨xs, ys, k1, k2, by rw [d1.length, d2.length]; exact z2 hi⟩⟩
  obtain ⟨x, y, e1, e2, rfl⟩ := z1 d hi
  obtain ⟨v, g1, r1⟩ := d1.get e1
  obtain ⟨u, g2, r2⟩ := d2.get e2
  refine ⟨⟨xs, ys, v, u, k1, k2, g1, g2⟩, fun w' H'' ⟨T, x', y', e3, nT, eH, q1, q2⟩ => ?_⟩
  subst e3 eH
  have w1 := q1 xs k1
  have w2 := q2 ys k2
  rw [g1] at w1
  rw [g2] at w2
  cases w1
  cases w2
  exact ⟨Al.new nT, Dr.newT nT (.cons (ke.dr hR (Dr.shift hS _ _ r1)) (.cons (ke.dr hR (Dr.shift hS _ _ r2)) .nil))⟩
end
theorem sn_seqI {e : Expr} {m : Env → M D} (h : PE X e (tD (arOf X τ B E) md m)) : PI X tg e (tI (arOf X τ B E) md fun env => do let x ← m env; M.of (seqOf x)) := by
  refine (pi_seq h).imp fun σ H R ⟨env, s, Rp, t, h⟩ => ?_
  refine ⟨env, s, Rp, t, h.bnd.imp fun x s1 H1 e1 t1 h1 v dv => ?_⟩
  obtain ⟨ds, ed, h2⟩ := h1.of
  have h2 := h2 H1 (Xt.refl H1) t1
  unfold seqOf at ed
  split at ed
  · cases ed
    cases md with
    | true =>
      cases (show Dr X.K (Av B env σ) H1 v (.list ds) from dv) with
      | lst e n hd =>
        refine ⟨_, rfl, .inl ⟨⟨_, SqL.of e⟩, h2 _ (it_list e ?_ hd)⟩⟩
        exact n
    | false =>
      obtain ⟨a, xs, rfl, e, hd⟩ := dv.i.lst
      refine ⟨_, rfl, .inl ⟨⟨_, SqL.of e⟩, h2 _ (it_list e ?_ hd)⟩⟩
      rintro (z | z)
      · rw [z, t1.1] at e; cases e
      · rw [z, t1.2.1] at e; cases e
  · cases ed
    obtain ⟨a, xs, rfl, e, hd⟩ := dv.i.tup
    exact ⟨_, rfl, .inr ⟨⟨_, e⟩, h2 _ (it_tup e hd)⟩⟩
  · cases ed
theorem star1 {e : Expr} {es : List Expr} (h : starred e = false) : starEach (e :: es) X.env = (false, eval e X.env) :: starEach es X.env := by
  cases e <;> first
    | rfl
    | cases h
theorem stars_any {p : Pos} : ∀ {es : List Expr}, (∀ e ∈ es, starred e = false) → (backTo p (starEach es X.env)).any (·.1) = false
  | [], _ => rfl
  | e :: es, h => by
    have ih := stars_any (p := p) (es := es) fun x hx => h x (List.mem_cons_of_mem _ hx)
    rw [star1 (h e List.mem_cons_self)]
    unfold backTo at ih ⊢
    rw [List.map_cons, List.any_cons, ih]
    rfl
/-- one argument alone -/
theorem sn_one {e : Expr} {m : Env → M D} (h : PE X e (tD (arOf X τ B E) md m)) (ns : starred e = false) : PA X [e] (fun σ H Q => ∃ env s, Rep X.prog X.w X.K τ B env σ H ∧ TownR τ H s ∧ Ok τ E H (m env s) fun d _ H' => ∀ v, Dv X.prog X.w X.K τ (Av B env σ) md H' v d → Q [v] H') := by
  refine (pa_cons h pa_nil (star1 ns)).imp fun σ H Q ⟨env, s, R, t, h⟩ => ?_
  exact ⟨env, s, R, t, h⟩
theorem sn_rng {e : Expr} {p : Pos} {m : Env → M D} (hg : Gl X "range") (hm : X.mg "range" = none) (h : PE X e (tD (arOf X τ B E) true m)) (ns : starred e = false) :
    PI X tg (.Call (.Name "range" p) [e] [] pos) (tI (arOf X τ B E) md fun env => do let n ← intOf (← m env); if n ≤ 1000 ∧ -1000 ≤ n then M.ret (rngD n) else M.non) := by
  refine (pi_range1 hg hm (sn_one h ns) (star1 ns)).imp fun σ H R ⟨env, s, Rp, t, h⟩ => ?_
  refine ⟨env, s, Rp, t, h.bnd.imp fun x s1 H1 e1 t1 h1 v dv => ?_⟩
  obtain ⟨n, rfl, h2⟩ := h1.bnd.int
  obtain rfl := dv.i.int
  obtain ⟨hc, h3⟩ := (h2 H1 (Xt.refl H1) t1).ifN
  exact ⟨n, rfl, by omega, by omega, h3.ret H1 (Xt.refl H1) t1 _ it_rng⟩
theorem sn_zip {e e2 : Expr} {elts : List Expr} {kk : Nat} {tp p : Pos} {m1 m2 : Env → M D} (hg : Gl X "zip") (hm : X.mg "zip" = none) (h1 : PE X e (tD (arOf X τ B E) true m1)) (h2 : PE X e2 (tD (arOf X τ B E) true m2)) (ns : starred e = false) (ns2 : starred e2 = false) :
    PI X (.Tuple elts kk tp) (.Call (.Name "zip" p) [e, e2] [] pos) (tI (arOf X τ B E) md fun env => do
      let x ← m1 env
      let y ← m2 env
      zipM x y) := by
  refine (RZ.pi_zipA hg hm (sn_cons h1 (sn_cons h2 sn_nil (star1 ns2)) (star1 ns)) (star1 ns) (stars_any fun x hx => by rw [List.mem_singleton.mp hx]; exact ns2)).imp fun σ H R ⟨env, s, Rp, t, h⟩ => ?_
  have e1 : ∀ (a : M D) (b : M D) (f : D → D → M (List PyData)) (s : Twn), (M.bnd a fun x => M.bnd b fun y => f x y) s = (M.bnd (M.bnd a fun x => M.bnd (M.bnd b fun y => M.bnd (M.ret []) fun r => M.ret (y :: r)) fun r => M.ret (x :: r)) fun l => match l with | [x, y] => f x y | _ => M.non) s := by
    intro a b f s
    unfold M.bnd
    cases a s with
    | ok x s1 =>
      dsimp only
      cases b s1 <;> rfl
    | exc => rfl
    | stuck => rfl
  have h := (congrArg (fun r => Ok τ E H r _) (e1 (m1 env) (m2 env) _ s)).mp h
  refine ⟨env, s, Rp, t, (Ok.bnd h).imp fun ds s1 H1 x1 t1 h3 vs dvs => ?_⟩
  cases dvs with
  | nil => exact h3.elim
  | cons a1 r1 =>
    cases r1 with
    | nil => exact h3.elim
    | cons a2 r2 =>
      cases r2 with
      | cons => exact h3.elim
      | nil =>
        have h3 : Ok τ E H1 (zipM _ _ s1) _ := h3
        unfold zipM at h3
        split at h3
        · obtain ⟨a, xs, rfl, q1, d1⟩ := a1.i.tup
          obtain ⟨b, ys, rfl, q2, d2⟩ := a2.i.tup
          exact ⟨a, b, xs, ys, rfl, .inr ⟨q1, q2, h3.ret H1 (Xt.refl H1) t1 _ (it_zip q1 q2 d1 d2)⟩⟩
        · exact h3.elim

/-! ### built-in calls -/
theorem sn_p1 {e : Expr} {x : Str} {p : Pos} {id : String} {g : D → Option D} {m : Env → M D} (hc : CallR X (.builtin id) (rQ X.prog X.w X.K τ g)) (hg : Gl X x) (hm : X.mg x = none) (hv : bootBuiltins x = some (.builtin id)) (hn : x ≠ "__name__") (hdb : (x == ("__debug__" : Str)) = false)
    (h : PE X e (tD (arOf X τ B E) false m)) (ns : starred e = false) : PE X (.Call (.Name x p) [e] [] pos) (tD (arOf X τ B E) md fun env => do let x ← m env; M.of (g x)) := by
  refine (pe_callB hc hg hm hv (sn_one h ns) hn hdb (star1 ns) rfl).imp fun σ H Q ⟨env, s, R, t, h⟩ => ?_
  refine ⟨env, s, R, t, h.bnd.imp fun x s1 H1 e1 t1 h1 v dv => ?_⟩
  obtain ⟨d, ed, h2⟩ := h1.of
  exact ⟨v, rfl, _, x, d, (R.xt t e1).sdom, dv, ed, fun w' H' al dw => h2 H' al.xt (al.town t1) w' dw.weak⟩
theorem sn_p1T {e : Expr} {x : Str} {p : Pos} {id : String} {g : D → Option D} {m : Env → M D} (hc : CallR X (.type id) (rQ X.prog X.w X.K τ g)) (hg : Gl X x) (hm : X.mg x = none) (hv : bootBuiltins x = some (.type id)) (hn : x ≠ "__name__") (hdb : (x == ("__debug__" : Str)) = false)
    (h : PE X e (tD (arOf X τ B E) false m)) (ns : starred e = false) : PE X (.Call (.Name x p) [e] [] pos) (tD (arOf X τ B E) md fun env => do let x ← m env; M.of (g x)) := by
  refine (pe_callTy hc hg hm hv (sn_one h ns) hn hdb (star1 ns) rfl).imp fun σ H Q ⟨env, s, R, t, h⟩ => ?_
  refine ⟨env, s, R, t, h.bnd.imp fun x s1 H1 e1 t1 h1 v dv => ?_⟩
  obtain ⟨d, ed, h2⟩ := h1.of
  exact ⟨v, rfl, _, x, d, (R.xt t e1).sdom, dv, ed, fun w' H' al dw => h2 H' al.xt (al.town t1) w' dw.weak⟩
theorem boot_isinst : bootBuiltins "isinstance" = some (.builtin "isinstance") := by decide +kernel
theorem boot_ty (t : Ty) : bootBuiltins t.st = some (.type t.nm) := by cases t <;> decide +kernel
theorem sn_isi {e : Expr} {p q : Pos} {t : Ty} {m : Env → M D} (hg : Gl X "isinstance") (hm : X.mg "isinstance" = none) (hg2 : Gl X t.st) (hm2 : X.mg t.st = none) (h : PE X e (tD (arOf X τ B E) false m)) (ns : starred e = false) :
    PE X (.Call (.Name "isinstance" p) [e, .Name t.st q] [] pos) (tD (arOf X τ B E) md fun env => do let x ← datOf (← m env); M.ret (bl (isTy t x))) := by
  have hty : PE X (.Name t.st q) (tC (.ty t.nm)) := pe_bltn hg2 hm2 (boot_ty t) rfl (by cases t <;> decide) (by cases t <;> decide)
  refine (pe_callB (cq_is (τ := τ) t) hg hm boot_isinst (pa_cons h (pa_cons hty pa_nil rfl) (star1 ns)) (by decide) (by decide) (star1 ns) rfl).imp fun σ H Q ⟨env, s, R, tw, h⟩ => ?_
  refine ⟨env, s, R, tw, h.bnd.imp fun x s1 H1 e1 t1 h1 v dv => ?_⟩
  obtain ⟨d, rfl, h2⟩ := h1.bnd.dat
  exact ⟨_, v, d, rfl, dv, (h2 H1 (Xt.refl H1) t1).ret H1 (Xt.refl H1) t1 _ (Dv.weak (d := .dat _) (.bl _))⟩
theorem rgV_data {K : PySem.W.Frag} {S : Addr → Prop} {H : Hp} {n : Int} : Drs K S H (rgV 0 n) (rngD n) := by
  unfold rgV rngD
  rw [Int.sub_zero]
  generalize List.range n.toNat = l
  induction l with
  | nil => exact .nil
  | cons i l ih =>
    refine .cons ?_ ih
    show Dr K S H (V.int (0 + (i : Int))) (.int (i : Int))
    rw [Int.zero_add]
    exact .int _
theorem sn_lrng {e : Expr} {p p2 q : Pos} {m : Env → M D} (g : Gd X) (hg : Gl X "list") (hm : X.mg "list" = none) (hg2 : Gl X "range") (hm2 : X.mg "range" = none) (h : PE X e (tD (arOf X τ B E) false m)) (ns : starred e = false) :
    PE X (.Call (.Name "list" p) [.Call (.Name "range" p2) [e] [] q] [] pos) (tD (arOf X τ B E) md fun env => do let n ← intOf (← m env); if 0 ≤ n ∧ n ≤ 1000 then M.ret (lst (rngD n)) else M.non) := by
  refine (pe_listRg g.calm hg hm (prg_1 hg2 hm2 h (star1 ns)) rfl).imp fun σ H Q ⟨env, s, R, t, h⟩ => ?_
  refine ⟨env, s, R, t, h.bnd.imp fun x s1 H1 e1 t1 h1 v dv => ?_⟩
  obtain ⟨n, rfl, h2⟩ := h1.bnd.int
  obtain rfl := dv.i.int
  obtain ⟨hc, h3⟩ := (h2 H1 (Xt.refl H1) t1).ifN
  exact ⟨n, rfl, RgOk.of_le (Int.le_refl _) (by omega) (by omega) hc.1, fun l nl => h3.ret _ (Al.new nl).xt ((Al.new nl).town t1) _ (Dv.weak (d := .dat _) (Dr.newL (R.xt t e1).sdom nl rgV_data))⟩
theorem sn_trng {e : Expr} {p p2 q : Pos} {m : Env → M D} (g : Gd X) (hg : Gl X "tuple") (hm : X.mg "tuple" = none) (hg2 : Gl X "range") (hm2 : X.mg "range" = none) (h : PE X e (tD (arOf X τ B E) false m)) (ns : starred e = false) :
    PE X (.Call (.Name "tuple" p) [.Call (.Name "range" p2) [e] [] q] [] pos) (tD (arOf X τ B E) md fun env => do let n ← intOf (← m env); if 0 ≤ n ∧ n ≤ 1000 then M.ret (tup (rngD n)) else M.non) := by
  refine (pe_tupRg g.calm hg hm (prg_1 hg2 hm2 h (star1 ns)) rfl).imp fun σ H Q ⟨env, s, R, t, h⟩ => ?_
  refine ⟨env, s, R, t, h.bnd.imp fun x s1 H1 e1 t1 h1 v dv => ?_⟩
  obtain ⟨n, rfl, h2⟩ := h1.bnd.int
  obtain rfl := dv.i.int
  obtain ⟨hc, h3⟩ := (h2 H1 (Xt.refl H1) t1).ifN
  exact ⟨n, rfl, RgOk.of_le (Int.le_refl _) (by omega) (by omega) hc.1, fun l nl => h3.ret _ (Al.new nl).xt ((Al.new nl).town t1) _ (Dv.weak (d := .dat _) (Dr.newT nl rgV_data))⟩

/-! ### calls of the defs -/
theorem Dvs.to {P : Program} {w : World} {K : PySem.W.Frag} {τ : Tn} {B B' S : Addr → Prop} {E E' : XK} {H : Hp} {vs : List V} {ds : List D} (h : Dvs ⟨P, w, K, τ, B, E⟩ S H vs ds) : Dvs ⟨P, w, K, τ, B', E'⟩ S H vs ds := by
  induction h with
  | nil => exact .nil
  | cons h _ ih => exact .cons h ih
/-- what a def gives: Gs by the script -/
def spD (P : Program) (w : World) (K : PySem.W.Frag) (τ0 : Tn) (F : List Int → Fun) : Sp := fun vs H Q E => ∃ (τ : Tn) (s : Twn) (ds : List D) (S : Addr → Prop), τ.fa = τ0.fa ∧ τ.cl = τ0.cl ∧ τ.tabs = τ0.tabs ∧ τ.K = K ∧ TownR τ H s ∧ (∀ a, τ.U a → S a) ∧ (∀ a, S a → H a ≠ none) ∧
  Dvs ⟨P, w, K, τ, S, E⟩ S H vs ds ∧ Ok τ E H (F τ.scr ds s) fun d _ H' => ∀ v, Dv P w K τ S true H' v d → Q v H'
structure FnAt (CX : CXT) (X : Cx) (τ : Tn) (F : List Int → Fun) (x : Str) (f : Addr) : Prop where
  ok : ∃ fd ps k, FnOk X.prog X.w X.K X.mg X.base CX k f fd ps (spD X.prog X.w X.K τ F) ∧ Room k X.A ∧ Binds X.K fd ps []
  mg : X.mg x = some (.ref f)
  kp : PySem.W.keepIn X.K (.ref f) = true
theorem sn_call {CX : CXT} {F : List Int → Fun} {x : Str} {f : Addr} {p : Pos} {e : Expr} {es : List Expr} {ms : Env → M (List D)} (FA : FnAt CX X τ F x f) (hK : τ.K = X.K) (hx : Passes CX X E) (hg : Gl X x) (hdb : (x == ("__debug__" : Str)) = false)
    (h : PA X (e :: es) (tA (arOf X τ B E) ms)) (ns : ∀ y ∈ e :: es, starred y = false) : PE X (.Call (.Name x p) (e :: es) [] pos) (tD (arOf X τ B E) md fun env => do let ds ← ms env; F τ.scr ds) := by
  obtain ⟨fd, ps, k, F1, F2, F3⟩ := FA.ok
  refine (pe_call F1 F2 hg FA.mg FA.kp F3 .nil hx h hdb (star1 (ns e List.mem_cons_self)) (stars_any fun y hy => ns y (List.mem_cons_of_mem _ hy))).imp fun σ H Q ⟨env, s, R, t, h⟩ => ?_
  refine ⟨env, s, R, t, h.bnd.imp fun ds s1 H1 e1 t1 h1 vs dvs => ?_⟩
  show spD X.prog X.w X.K τ F (vs ++ []) H1 Q E
  rw [List.append_nil]
  exact ⟨τ, s1, ds, Av B env σ, rfl, rfl, rfl, hK, t1, fun a h => .inl (R.tB a h), (R.xt t e1).sdom, dvs.to, h1.imp fun d s2 H2 e2 t2 q v dv => q v dv.weak⟩
theorem sn_call0 {CX : CXT} {F : List Int → Fun} {x : Str} {f : Addr} {p : Pos} (FA : FnAt CX X τ F x f) (hK : τ.K = X.K) (hx : Passes CX X E) (hg : Gl X x) (hdb : (x == ("__debug__" : Str)) = false) :
    PE X (.Call (.Name x p) [] [] pos) (tD (arOf X τ B E) md fun env => do let ds ← M.ret []; F τ.scr ds) := by
  obtain ⟨fd, ps, k, F1, F2, F3⟩ := FA.ok
  refine (pe_call0 F1 F2 hg FA.mg FA.kp F3 .nil hx hdb).imp fun σ H Q ⟨env, s, R, t, h⟩ => ?_
  have h : Ok τ E H (F τ.scr [] s) _ := h
  exact ⟨τ, s, [], Av B env σ, rfl, rfl, rfl, hK, t, fun a h => .inl (R.tB a h), R.sdom, .nil, h.imp fun d s2 H2 e2 t2 q v dv => q v dv.weak⟩
end
end BK
set_option Elab.async false
set_option linter.all false
set_option maxRecDepth 100000
set_option maxHeartbeats 2000000
/-! Dicts with tuples for keys: stores. -/
namespace BK
open PySem L2
section
variable {K : PySem.W.Frag} {S : Addr → Prop} {H H' : Hp}
theorem paired_app {α β : Type} {F : α → β → Prop} : ∀ {l₁ l₁' : List α} {l₂ l₂' : List β}, Paired F l₁ l₂ → Paired F l₁' l₂' → Paired F (l₁ ++ l₁') (l₂ ++ l₂')
  | _, _, _, _, .nil, h => h
  | _, _, _, _, .cons h t, q => .cons h (paired_app t q)
theorem row_put {kvs : List (NestedKey × PyData)} {xs : List (NestedKey × Addr × Value)} (pr : Paired (RowR K S H) kvs xs) {k : NestedKey} {b : Addr} {u : Value} {v : V} {d : PyData} (hk : k.depth ≤ 8) (hb : Dr K S H (.ref b) k.data) (ru : RelV v u) (hd : Dr K S H v d) :
    Paired (RowR K S H) (putT kvs k d) (storedH xs k b u) := by
  unfold putT storedH
  rw [look_some pr k]
  split
  · rename_i hq
    clear hq hb
    induction pr with
    | nil => exact .nil
    | @cons p x ps xs h t ih =>
      refine .cons ?_ ih
      obtain ⟨h1, h2, h3, w', h4, h5⟩ := h
      show RowR K S H (if p.1 = k then (p.1, d) else p) (putAt k u x)
      by_cases e : p.1 = k
      · rw [if_pos e]
        have e2 : x.1 = k := h1.symm.trans e
        refine ⟨?_, ?_, ?_, v, ?_, hd⟩
        · unfold putAt
          rw [if_pos e2]
          exact h1
        · unfold putAt
          rw [if_pos e2]
          exact h2
        · unfold putAt
          rw [if_pos e2]
          exact h3
        · unfold putAt
          rw [if_pos e2]
          exact ru
      · rw [if_neg e]
        have e2 : ¬ x.1 = k := fun z => e (h1.trans z)
        unfold putAt
        rw [if_neg e2]
        exact ⟨h1, h2, h3, w', h4, h5⟩
  · exact paired_app pr (.cons ⟨rfl, hk, hb, v, ru, hd⟩ .nil)
theorem RowR.keep (k : Ke (fun a => S a) H H') {p : NestedKey × PyData} {x : NestedKey × Addr × Value} (h : RowR K S H p x) : RowR K S H' p x := by
  obtain ⟨h1, h2, h3, v, h4, h5⟩ := h
  exact ⟨h1, h2, k.dr (fun _ z => z) h3, v, h4, k.dr (fun _ z => z) h5⟩
end
section
variable {X : Cx} {τ : Tn} {S : Addr → Prop}
theorem ObO_inj {l : Addr} {o o' : Obj} {h : Heap} (hg : h.get? l = some o) (e : ObO l o = ObO l o') : o = o' := by
  unfold ObO at e
  have := congrFun (HO.ext.inj e) h
  have : h.get? l = some o' := by rw [← this]; exact hg
  rw [hg] at this
  exact Option.some.inj this
theorem code_not {l : Addr} {o : Obj} {h : Heap} {q : Str} {es : Array DictEntry} {ep : Nat} (hg : h.get? l = some o) (hd : o.data = .dict es ep) (e : ObO l o = LamX.CodeO l q) : False := by
  unfold ObO LamX.CodeO at e
  have := congrFun (HO.ext.inj e) h
  have z : ∃ (oc : Obj) (vs : Array Value) (t : Tok), h.get? l = some oc ∧ oc.data = .fields vs ∧ vs[1]? = some (.str q t) := by rw [← this]; exact hg
  obtain ⟨oc, vs, t, h1, h2, _⟩ := z
  rw [hg] at h1
  cases h1
  rw [hd] at h2
  cases h2
theorem ob_ke {H : Hp} {l : Addr} {o : Obj} {u : HO} (h : H l = some (ObO l o)) : Ke (fun a => a = l) H (upd H l u) := by
  refine ⟨fun b w n _ e => by rw [upd_ne n]; exact e, fun b n => ?_, fun b zs r => ?_⟩
  · by_cases e : b = l
    · rw [e, upd_same]; simp
    · rw [upd_ne e]; exact n
  · have e : b ≠ l := fun e => by
      unfold ObO at h
      rcases r with r | ⟨w, r⟩ <;> rw [e, h] at r <;> cases r
    unfold Rd
    rw [upd_ne e]
    exact r
/-- d[y] = v, tuples for keys -/
theorem put_dT (g : Gd X) {pins : List (Addr × Obj)} {s : Shared} {σ : L2.St} {H : Hp} {l : Addr} {iv u : Value} {i v : V} {kvs : List (NestedKey × PyData)} {y d : PyData} {k : NestedKey} {Q : Hp → Prop} (I : Inv X pins σ H s) (hl : S l) (hm : DTr X.prog X.w X.K S H l kvs)
    (hk : nkey y = some k) (hy : Dr X.K S H i y) (hd : Dr X.K S H v d) (ri : RelV i iv) (rv : RelV v u) (hlen : kvs.length < sizeLine)
    (q : ∀ H', Ke (fun a => a = l) H H' → (∀ b, b ≠ l → H' b = H b) → (∀ T, LamX.Tabs T H → LamX.Tabs T H') → DTr X.prog X.w X.K S H' l (putT kvs k d) → Q H') :
    wpAny (model X.prog X.w) X.A (setItem (.ref l) iv u) (fun _ s' => ∃ H', Inv X pins σ H' s' ∧ Q H') X.xe s := by
  obtain ⟨⟨ds, rfl⟩, e1, e2⟩ := nkey_of hk
  cases hy with
  | tup hs hdd =>
    rename_i b ys
    cases ri
    have hm0 := hm
    obtain ⟨xs, hmo, hne, hz, pr⟩ := hm.of I
    obtain ⟨o, es, ep, _, eo, _, _, r3, _⟩ := hm0
    have ho : s.heap.get? l = some o := (I.hok l _ eo).1
    refine wpAny_setItem_heap (knd := nestedKind X.prog X.w) (hsz := hz) (room_nested g) (k := k) ⟨nested_of I (.tuple ds) k _ _ e1 (.tup hs hdd) rfl, e2⟩ hmo fun h' hm' sb => ?_
    obtain ⟨o', es', ep', h1, h2, h3, h4, _, h6⟩ := hm'
    have ku : Ke (fun a => a = l) H (upd H l (ObO l o')) := ob_ke eo
    have kS : ∀ a, a = l → S a := fun a z => by rw [z]; exact hl
    have hkd : k.data = .tuple ds := nk_data _ _ e1
    have ht : ∀ T, LamX.Tabs T H → LamX.Tabs T (upd H l (ObO l o')) := fun T t p hp => by
      obtain ⟨ps, t1, t2, t3⟩ := t p hp
      refine ⟨ps, ?_, t2, fun pos cv hc => ?_⟩
      · rw [upd_ne (fun e => by rw [e, eo] at t1; unfold ObO at t1; cases t1)]
        exact t1
      · obtain ⟨c, c1, c2⟩ := t3 pos cv hc
        refine ⟨c, c1, ?_⟩
        rw [upd_ne (fun e => by
          rw [e, eo] at c2
          exact code_not ho r3 (Option.some.inj c2))]
        exact c2
    refine ⟨upd H l (ObO l o'), I.write (x := l) (e := l) (by rw [eo]; exact True.intro) (.inl rfl) (fun c w hc z => (sb.2 c hc).trans z) ⟨_, h1⟩ ⟨h1, ⟨_, h1⟩, fun a b p z => z _ p⟩, q _ ku (fun c hc => upd_ne hc) ht ?_⟩
    have hrow : Paired (RowR X.K S H) (putT kvs k d) (storedH xs k b u) := row_put pr e2 (by rw [hkd]; exact .tup hs hdd) rv hd
    refine ⟨o', es', ep', storedH xs k b u, upd_same, hne, h2, h3, h4, h6, ?_, Paired.mp hrow fun p x ⟨a1, a2, a3, w', a4, a5⟩ => ⟨a1, a2, ku.dr kS a3, w', a4, ku.dr kS a5⟩⟩
    have l1 := storedH_length xs k b u
    have l2 : kvs.length = xs.length := Paired.length pr
    omega
abbrev RowK (K : PySem.W.Frag) (S : Addr → Prop) (H : Hp) (p : Key × PyData) (q : Key × V) : Prop := p.1 = q.1 ∧ Dr K S H q.2 p.2
theorem any_look {K : PySem.W.Frag} {H : Hp} {kvs : List (Key × PyData)} {vs : List (Key × V)} (pr : Paired (RowK K S H) kvs vs) (k : Key) : (vs.any fun kv => decide (kv.1 = k)) = (lookT kvs k).isSome := by
  induction pr with
  | nil => rfl
  | @cons p q ps qs h t ih =>
    unfold lookT at ih ⊢
    rw [List.any_cons, List.find?_cons, ← h.1]
    by_cases e : p.1 = k
    · rw [decide_eq_true e]
      rfl
    · rw [decide_eq_false e, Bool.false_or]
      exact ih
theorem rowK_put {K : PySem.W.Frag} {H : Hp} {kvs : List (Key × PyData)} {vs : List (Key × V)} (pr : Paired (RowK K S H) kvs vs) {k : Key} {v : V} {d : PyData} (hd : Dr K S H v d) : Paired (RowK K S H) (putT kvs k d) (putK vs k v) := by
  unfold putT putK
  rw [any_look pr k]
  split
  · rename_i hq
    clear hq
    induction pr with
    | nil => exact .nil
    | @cons p q ps qs h t ih =>
      refine .cons ?_ ih
      show RowK K S H (if p.1 = k then (p.1, d) else p) (if q.1 = k then (q.1, v) else q)
      rw [← h.1]
      by_cases e : p.1 = k
      · rw [if_pos e, if_pos e]
        exact ⟨rfl, hd⟩
      · rw [if_neg e, if_neg e]
        exact h
  · exact paired_app pr (.cons ⟨rfl, hd⟩ .nil)
theorem put_dK (g : Gd X) {pins : List (Addr × Obj)} {s : Shared} {σ : L2.St} {H : Hp} {l : Addr} {iv u : Value} {i v : V} {kvs : List (Key × PyData)} {y d : PyData} {k : Key} {Q : Hp → Prop} (I : Inv X pins σ H s) (hl : S l) (hm : DKr X.K S H l kvs)
    (hk : kkey y = some k) (hy : Dr X.K S H i y) (hd : Dr X.K S H v d) (ri : RelV i iv) (rv : RelV v u) (hlen : kvs.length < sizeLine)
    (q : ∀ H', Ke (fun a => a = l) H H' → (∀ b, b ≠ l → H' b = H b) → (∀ T, LamX.Tabs T H → LamX.Tabs T H') → DKr X.K S H' l (putT kvs k d) → Q H') :
    wpAny (model X.prog X.w) X.A (setItem (.ref l) iv u) (fun _ s' => ∃ H', Inv X pins σ H' s' ∧ Q H') X.xe s := by
  obtain ⟨vs, e, pr⟩ := hm
  obtain rfl := kv_of hk hy.i
  have hlv : vs.length = kvs.length := (Paired.length pr).symm
  refine d_setItem g.u1 I (DPut.k e (k := k) (v := v) (by omega)) ri rv fun s' I' => ⟨_, I', ?_⟩
  have ku : Ke (fun a => a = l) H (upd H l (.dK (putK vs k v))) := by
    refine ⟨fun b w n _ z => by rw [upd_ne n]; exact z, fun b n => ?_, fun b zs r => ?_⟩
    · by_cases z : b = l
      · rw [z, upd_same]; simp
      · rw [upd_ne z]; exact n
    · have z : b ≠ l := fun z => by rcases r with r | ⟨w, r⟩ <;> rw [z, e] at r <;> cases r
      unfold Rd
      rw [upd_ne z]
      exact r
  have kS : ∀ a, a = l → S a := fun a z => by rw [z]; exact hl
  refine q _ ku (fun c hc => upd_ne hc) (fun T t p hp => ?_) ⟨_, upd_same, Paired.mp (rowK_put pr hd) fun p x ⟨a1, a2⟩ => ⟨a1, ku.dr kS a2⟩⟩
  obtain ⟨ps, t1, t2, t3⟩ := t p hp
  refine ⟨ps, ?_, t2, fun pos cv hc => ?_⟩
  · rw [upd_ne (fun z => by rw [z, e] at t1; cases t1)]
    exact t1
  · obtain ⟨c, c1, c2⟩ := t3 pos cv hc
    exact ⟨c, c1, by rw [upd_ne (fun z => by rw [z, e] at c2; cases c2)]; exact c2⟩
end
end BK
set_option Elab.async false
set_option linter.all false
set_option maxRecDepth 100000
set_option maxHeartbeats 2000000
/-! Statements. -/
namespace BK
open PySem L2
/-- what a piece of a frame may write -/
def Ch (τ : Tn) (env : Env) (σ : St) (a : Addr) : Prop := τ.T a ∨ Own env σ a
structure Pst (a : Ar) (env : Env) (σ : St) (H : Hp) (env' : Env) (σ' : St) (H' : Hp) : Prop where
  rp : a.Rp env' σ' H'
  ke : Ke (Ch a.τ env σ) H H'
  own : ∀ b, Own env' σ' b → Own env σ b ∨ H b = none
def SOk (a : Ar) (env : Env) (σ : St) (H : Hp) (D : Ends) (r : Res Fl) : Prop :=
  Wp r (fun fl s' => match fl with
    | .nx env' => ∀ σ' H', Pst a env σ H env' σ' H' → TownR a.τ H' s' → D.nx σ' H'
    | .rt d => ∀ v H', Ke (Ch a.τ env σ) H H' → TownR a.τ H' s' → Dv a.P a.w a.K a.τ a.B true H' v d → D.rt v H')
  fun c s' => ∀ H', Ke (Ch a.τ env σ) H H' → TownR a.τ H' s' → a.E (a.τ.cl c) none H'
def tS (a : Ar) (m : Env → M Fl) : TS := fun D σ H => ∃ env s, a.Rp env σ H ∧ TownR a.τ H s ∧ SOk a env σ H D (m env s)
section
variable {a : Ar} {env env1 env2 : Env} {σ σ1 σ2 : St} {H H1 H2 : Hp} {D : Ends} {s : Twn}
theorem none_of {S : Addr → Prop} {H H' : Hp} (k : Ke S H H') {b : Addr} (h : H' b = none) : H b = none := by
  cases q : H b with
  | none => rfl
  | some o => exact absurd h (k.2.1 b (by rw [q]; simp))
theorem Pst.ch (p : Pst a env σ H env1 σ1 H1) : ∀ c, Ch a.τ env1 σ1 c → Ch a.τ env σ c ∨ H c = none := fun c h => by
  rcases h with h | h
  · exact .inl (.inl h)
  · exact (p.own c h).imp .inr id
theorem Pst.trans (p : Pst a env σ H env1 σ1 H1) (q : Pst a env1 σ1 H1 env2 σ2 H2) : Pst a env σ H env2 σ2 H2 :=
  ⟨q.rp, p.ke.ext q.ke p.ch, fun b h => (q.own b h).elim (p.own b) fun z => .inr (none_of p.ke z)⟩
theorem Pst.refl (R : a.Rp env σ H) : Pst a env σ H env σ H := ⟨R, (Al.refl H).ke, fun _ h => .inl h⟩
theorem Pst.xt {s : Twn} (R : a.Rp env σ H) (t : TownR a.τ H s) (x : Xt a.τ H H1) : Pst a env σ H env σ H1 := ⟨R.xt t x, x.mono fun _ h => .inl h, fun _ h => .inl h⟩
/-- from a later place -/
theorem SOk.step {r : Res Fl} (p : Pst a env σ H env1 σ1 H1) (h : SOk a env σ H D r) : SOk a env1 σ1 H1 D r := by
  refine Wp.mono h (fun fl s' q => ?_) fun c s' q H' k t => q H' (p.ke.ext k p.ch) t
  cases fl with
  | nx env' => exact fun σ' H' q' t => q σ' H' (p.trans q') t
  | rt d => exact fun v H' k t dv => q v H' (p.ke.ext k p.ch) t dv
/-- an expression ahead -/
theorem SOk.ok {α : Type} {x : M α} {f : α → M Fl} (R : a.Rp env σ H) (t : TownR a.τ H s) (h : SOk a env σ H D ((x >>= f) s)) : Ok a.τ a.E H (x s) fun y s1 H1 => SOk a env σ H1 D (f y s1) := by
  refine Wp.mono (Wp.bnd h) (fun y s1 q H1 x1 t1 => SOk.step (Pst.xt R t x1) q) fun c s1 q H1 x1 t1 => q H1 (x1.mono fun _ z => .inl z) t1
/-- one after the other -/
theorem SOk.seq {m : M Fl} {f : Env → M Fl} (h : SOk a env σ H D ((do match ← m with
    | .nx env' => f env'
    | .rt d => M.ret (.rt d)) s)) : SOk a env σ H { D with nx := fun σ1 H1 => ∃ env1 s1, Pst a env σ H env1 σ1 H1 ∧ TownR a.τ H1 s1 ∧ SOk a env1 σ1 H1 D (f env1 s1) } (m s) := by
  refine Wp.mono (Wp.bnd h) (fun fl s1 q => ?_) fun c s1 q => q
  cases fl with
  | nx env1 => exact fun σ1 H1 p t => ⟨env1, s1, p, t, SOk.step p q⟩
  | rt d => exact q
end
section
variable {X : Cx} {τ : Tn} {B : Addr → Prop} {E : XK} {pos : Pos}
theorem _root_.L2.PS.imp {st : Stmt} {t t' : TS} (h : PS X st t) (f : ∀ D σ H, t' D σ H → t D σ H) : PS X st t' := ⟨fun pins s σ H D I z => h.run pins s σ H D I (f _ _ _ z)⟩
theorem _root_.L2.PSs.imp {st : List Stmt} {t t' : TS} (h : PSs X st t) (f : ∀ D σ H, t' D σ H → t D σ H) : PSs X st t' := ⟨fun pins s σ H D I z => h.run pins s σ H D I (f _ _ _ z)⟩
theorem ss_nil : PSs X [] (tS (arOf X τ B E) fun env => M.ret (.nx env)) := pss_nil.imp fun D σ H ⟨env, s, R, t, h⟩ => h σ H (Pst.refl R) t
theorem ss_cons {st : Stmt} {rest : List Stmt} {m : Env → M Fl} {f : Env → M Fl} (h1 : PS X st (tS (arOf X τ B E) m)) (h2 : PSs X rest (tS (arOf X τ B E) f)) : PSs X (st :: rest) (tS (arOf X τ B E) fun env => do match ← m env with
    | .nx env' => f env'
    | .rt d => M.ret (.rt d)) := by
  refine (pss_cons h1 h2).imp fun D σ H ⟨env, s, R, t, h⟩ => ⟨env, s, R, t, Wp.mono h.seq (fun fl s1 q => ?_) fun _ _ q => q⟩
  cases fl with
  | nx env1 =>
    intro σ1 H1 p t1
    obtain ⟨env1, s1, p, t1, q⟩ := q σ1 H1 p t1
    exact ⟨env1, s1, p.rp, t1, q⟩
  | rt d => exact q
/-- what comes to nothing -/
theorem ss_never {st : Stmt} : PS X st (tS (arOf X τ B E) fun _ => M.non) := ps_never.imp fun D σ H ⟨env, s, R, t, h⟩ => h.elim
theorem ss_pass : PS X (.Pass pos) (tS (arOf X τ B E) fun env => M.ret (.nx env)) := ps_pass.imp fun D σ H ⟨env, s, R, t, h⟩ => h σ H (Pst.refl R) t
theorem ss_exp {e : Expr} {m : Env → M D} (h : PE X e (tD (arOf X τ B E) true m)) (hs : swapsWith e none pos.line X.env = pure false) : PS X (.Expr e pos) (tS (arOf X τ B E) fun env => do let _ ← m env; M.ret (.nx env)) := by
  refine (ps_expr h hs).imp fun D σ H ⟨env, s, R, t, h⟩ => ?_
  exact ⟨env, s, R, t, (SOk.ok R t h).imp fun d s1 H1 e1 t1 q v dv => q σ H1 (Pst.refl (R.xt t e1)) t1⟩
theorem ss_ret {e : Expr} {m : Env → M D} (h : PE X e (tD (arOf X τ B E) true m)) : PS X (.Return (some e) pos) (tS (arOf X τ B E) fun env => do let d ← m env; M.ret (.rt d)) := by
  refine (ps_ret h).imp fun D σ H ⟨env, s, R, t, h⟩ => ?_
  exact ⟨env, s, R, t, (SOk.ok R t h).imp fun d s1 H1 e1 t1 q v dv => q v H1 (Al.refl H1).ke t1 (Dv.mono (fun b z => .inl z) dv)⟩
theorem ss_if {c : Expr} {p q : List Stmt} {mc : Env → M Bool} {m1 m2 : Env → M Fl} (hc : PT X c (tT (arOf X τ B E) mc)) (h1 : PSs X p (tS (arOf X τ B E) m1)) (h2 : PSs X q (tS (arOf X τ B E) m2)) : PS X (.If c p q pos) (tS (arOf X τ B E) fun env => do if ← mc env then m1 env else m2 env) := by
  refine (ps_if hc h1 h2).imp fun D σ H ⟨env, s, R, t, h⟩ => ?_
  refine ⟨env, s, R, t, (SOk.ok R t h).imp fun b s1 H1 e1 t1 q => ?_⟩
  cases b with
  | true => exact ⟨env, s1, R.xt t e1, t1, q⟩
  | false => exact ⟨env, s1, R.xt t e1, t1, q⟩

/-! ### stores -/
theorem Pst.set {a : Ar} {env : Env} {σ : St} {H : Hp} {i : Nat} {v : V} {d : D} (R : a.Rp env σ H) (dv : Dv a.P a.w a.K a.τ (Av a.B env σ) true H v d) : Pst a env σ H (setE env i d) (σ.set i (some v)) H := by
  obtain ⟨R', hO⟩ := R.set (i := i) dv
  exact ⟨R', (Al.refl H).ke, fun b h => .inl (hO b h)⟩
theorem ss_asg {e : Expr} {m : Env → M D} {x : Str} {i : Nat} {p : Pos} (g : Gd X) (hi : X.N[i]? = some x) (hx : L2.Loc X.env.scope x) (hf : X.fn x = true ∨ X.env.scope.names.lookup x = some .local) (h : PE X e (tD (arOf X τ B E) true m))
    (hs : swapsWith e (some (.Name x p)) pos.line X.env = pure false) : PS X (.Assign [.Name x p] e pos) (tS (arOf X τ B E) fun env => do let d ← m env; M.ret (.nx (setE env i d))) := by
  refine (ps_set g.nd hi hx h hs hf).imp fun D σ H ⟨env, s, R, t, h⟩ => ?_
  exact ⟨env, s, R, t, (SOk.ok R t h).imp fun d s1 H1 e1 t1 q v dv => q _ H1 (Pst.set (R.xt t e1) dv) t1⟩
theorem swb_of {a : Ar} {tg : Tg} {env env' : Env} {σ : St} {H : Hp} {d : PyData} {v : V} {Q : St → Hp → Prop} (R : a.Rp env σ H) (hd : Dr a.K (Av a.B env σ) H v d) (hb : bindTg tg d env = some env') (q : ∀ σ', Pst a env σ H env' σ' H → Q σ' H) : tG a tg v σ H Q :=
  ⟨env, env', d, R, hd, hb, fun σ' R' hO _ _ => q σ' ⟨R', (Al.refl H).ke, fun b h => .inl (hO b h)⟩⟩
theorem ss_asgT {e tgx : Expr} {m : Env → M D} {tg : Tg} (hg : PG X tgx (tG (arOf X τ B E) tg)) (h : PE X e (tD (arOf X τ B E) true m)) (hs : swapsWithSole [tgx] e pos.line X.env = pure false) (hw : swappedStores [tgx] e X.env = pure none)
    (h1 : (assignEach [tgx] X.env).map (·.2) = [assign tgx X.env]) : PS X (.Assign [tgx] e pos) (tS (arOf X τ B E) fun env => do let d ← datOf (← m env); let env' ← M.of (bindTg tg d env); M.ret (.nx env')) := by
  refine (ps_asg h hg hs hw h1).imp fun D σ H ⟨env, s, R, t, h⟩ => ?_
  refine ⟨env, s, R, t, (SOk.ok R t h).imp fun d s1 H1 e1 t1 q v dv => ?_⟩
  have R1 := R.xt t e1
  obtain ⟨d, rfl, q2⟩ := (SOk.ok R1 t1 q).dat
  obtain ⟨env', hb, q3⟩ := (SOk.ok R1 t1 (q2 H1 (Xt.refl H1) t1)).of
  exact swb_of R1 dv hb fun σ' p => q3 H1 (Xt.refl H1) t1 σ' H1 p t1
/-- a new object that is still written -/
theorem Pst.own1 {a : Ar} {env : Env} {σ : St} {H H1 : Hp} {s : Twn} {i : Nat} {p : Addr} {d : D} (R : a.Rp env σ H) (t : TownR a.τ H s) (x : Xt a.τ H H1) (hp : H p = none) (hq : H1 p ≠ none) (dv : Dv a.P a.w a.K a.τ (fun b => Av a.B env σ b ∨ b = p) false H1 (.ref p) d) :
    Pst a env σ H (env.set i (some (true, d))) (σ.set i (some (.ref p))) H1 := by
  have hO : ∀ b, Own (env.set i (some (true, d))) (σ.set i (some (.ref p))) b → Own env σ b ∨ b = p := fun b ⟨j, e, h1, h2⟩ => by
    rcases set_get h2 with ⟨rfl, z⟩ | ⟨hj, h2⟩
    · cases z
      exact .inr rfl
    · rcases set_get h1 with ⟨z, _⟩ | ⟨_, h1⟩
      · exact absurd z hj
      · exact .inl ⟨j, e, h1, h2⟩
  have hA : ∀ b, Av a.B (env.set i (some (true, d))) (σ.set i (some (.ref p))) b → Av a.B env σ b ∨ b = p := fun b h => by
    rcases h with h | h
    · exact .inl (.inl h)
    · exact (hO b h).imp .inr id
  have hT : ∀ b, a.τ.T b → Av a.B (env.set i (some (true, d))) (σ.set i (some (.ref p))) b := fun b h => .inl (R.tB b (.inl h))
  have dvK : ∀ {md : Bool} {v : V} {d' : D}, Dv a.P a.w a.K a.τ (Av a.B env σ) md H v d' → Dv a.P a.w a.K a.τ (Av a.B (env.set i (some (true, d))) (σ.set i (some (.ref p)))) md H1 v d' := fun {md v d'} h => Xt.dv x t hT (Dv.mono hA (Dv.fresh hp h))
  have nB : ∀ b, a.B b → b ≠ p := fun b z q => R.dom b z (by rw [q]; exact hp)
  refine ⟨⟨by rw [List.length_set, List.length_set]; exact R.len, fun j e h => ?_, fun j e h => ?_, fun j k b d1 d2 h1 h2 h3 h4 => ?_, fun b h => x.2.1 b (R.dom b h), R.tB⟩, x.mono fun _ h => .inl h, fun b h => (hO b h).imp id fun z => by rw [z]; exact hp⟩
  · rcases set_get h with ⟨_, z⟩ | ⟨hj, h⟩
    · cases z
    · obtain ⟨u, h1, h2⟩ := R.val j e h
      exact ⟨u, by rw [List.getElem?_set_ne (Ne.symm hj)]; exact h1, dvK h2⟩
  · rcases set_get h with ⟨rfl, z⟩ | ⟨hj, h⟩
    · cases z
      have hl : j < env.length := by
        have := (List.getElem?_eq_some_iff.mp h).1
        rwa [List.length_set] at this
      exact ⟨p, by rw [List.getElem?_set_self (by rw [R.len]; exact hl)], fun z => nB p z rfl, hq, Dv.mono hA dv⟩
    · obtain ⟨b, h1, h2, h3, h4⟩ := R.own j e h
      exact ⟨b, by rw [List.getElem?_set_ne (Ne.symm hj)]; exact h1, h2, x.2.1 b h3, dvK h4⟩
  · rcases set_get h1 with ⟨e1, z1⟩ | ⟨n1, h1⟩ <;> rcases set_get h2 with ⟨e2, z2⟩ | ⟨n2, h2⟩
    · rw [e1, e2]
    · rcases set_get h3 with ⟨_, z3⟩ | ⟨z3, _⟩
      · cases z3
        rw [List.getElem?_set_ne (Ne.symm n2)] at h4
        obtain ⟨c, q1, _, q2, _⟩ := R.own k d2 h2
        rw [h4] at q1
        cases q1
        exact absurd hp q2
      · exact absurd e1 z3
    · rcases set_get h4 with ⟨_, z3⟩ | ⟨z3, _⟩
      · cases z3
        rw [List.getElem?_set_ne (Ne.symm n1)] at h3
        obtain ⟨c, q1, _, q2, _⟩ := R.own j d1 h1
        rw [h3] at q1
        cases q1
        exact absurd hp q2
      · exact absurd e2 z3
    · rw [List.getElem?_set_ne (Ne.symm n1)] at h3
      rw [List.getElem?_set_ne (Ne.symm n2)] at h4
      exact R.inj j k b d1 d2 h1 h2 h3 h4
theorem ss_own {e : Expr} {m : Env → M D} {x : Str} {i : Nat} {p : Pos} (g : Gd X) (hi : X.N[i]? = some x) (hx : L2.Loc X.env.scope x) (hf : X.fn x = true ∨ X.env.scope.names.lookup x = some .local) (h : PE X e (tDF (arOf X τ B E) m))
    (hs : swapsWith e (some (.Name x p)) pos.line X.env = pure false) : PS X (.Assign [.Name x p] e pos) (tS (arOf X τ B E) fun env => do let d ← m env; M.ret (.nx (env.set i (some (true, d))))) := by
  refine (ps_set g.nd hi hx h hs hf).imp fun D σ H ⟨env, s, R, t, h⟩ => ?_
  exact ⟨env, s, R, t, Wp.mono (Wp.bnd h) (fun d s1 q H1 e1 t1 p hp hq dv => q _ H1 (Pst.own1 R t e1 hp hq dv) t1) fun c s1 q H1 e1 t1 => q H1 (e1.mono fun _ z => .inl z) t1⟩
/-- a list comprehension on the line of its name, a local -/
theorem ss_asgLc {nm : Nm} {x : Str} {i : Nat} {py : Pos} {spos : Pos} {elt tgx iter : Expr} {ifs : List Expr} {scope : Scope} {own : List Nat} {tg : Tg} {mi : Env → M (List PyData)} {mt : Env → M Bool} {me : Env → M D} (g : Gd X) (hNN : X.N = nm.N)
    (hy : X.N[i]? = some x) (hyl : X.env.scope.names.lookup x = some .local) (hsw : swapsWith (.ListComp elt [⟨tgx, iter, ifs, 0⟩] scope pos) (some (.Name x py)) spos.line X.env = pure true)
    (hi : PI X tgx iter (tI (arOf X τ B E) false mi)) (hb : blkC nm.N X.env.scope scope (ownOf nm own) = true) (ho : (tgSl tg).all own.contains = true)
    (hg : ∀ (s : Shared) (H : Hp) (C : Addr) (cl : List (Str × Addr)) (fp : List Addr), PG (X.blk s H scope (compEnvC scope cl C X.env) fp) tgx (tGx (arOf X τ B fun _ _ _ => False) tg))
    (ht : ∀ (s : Shared) (H : Hp) (C : Addr) (cl : List (Str × Addr)) (fp : List Addr), PTs (X.blk s H scope (compEnvC scope cl C X.env) fp) ifs (tTx (arOf X τ B fun _ _ _ => False) mt))
    (he : ∀ (s : Shared) (H : Hp) (C : Addr) (cl : List (Str × Addr)) (fp : List Addr), PE (X.blk s H scope (compEnvC scope cl C X.env) fp) elt (tDx (arOf X τ B fun _ _ _ => False) me))
    (hs : ∀ x, foldedSetIterable iter X.env x = pure x) :
    PS X (.Assign [.Name x py] (.ListComp elt [⟨tgx, iter, ifs, 0⟩] scope pos) spos) (tS (arOf X τ B E) fun env => do
      let d ← (do
        let xs ← mi env
        if ownFree env own then
          let r ← lcGo (turnOf own tg mt me env) xs
          if fits r then M.ret (lst r) else M.non
        else M.non)
      M.ret (.nx (setE env i d))) := by
  have ok : BlkOk X.N X.env.scope scope (ownOf nm own) := blkOk_by (by rw [hNN]; exact hb)
  refine (ps_setLc g.calm g.nd hy hyl hsw hi ok hg ht he hs).imp fun D σ H ⟨env, s, R, t, h⟩ => ?_
  show tLc _ _ _ _ _ σ H _
  rw [ownOf_map]
  refine lc_imp ho σ H _ (tDF_of (md := true) ⟨env, s, R, t, ?_⟩)
  exact (SOk.ok R t h).imp fun d s1 H1 e1 t1 q v dv => q _ H1 (Pst.set (R.xt t e1) dv) t1

/-! ### writing on what is owned -/
theorem Dv.ke {P : Program} {w : World} {K : PySem.W.Frag} {S S' : Addr → Prop} {H H' : Hp} {v : V} {d : D} (k : Ke S H H') (hS : ∀ a, S a → S' a) (h : Dv P w K τ S' true H v d) : Dv P w K τ S' true H' v d := by
  cases d with
  | dat d => exact k.dr hS h
  | dK kvs =>
    obtain ⟨a, e, n, m, vs, h1, pr⟩ := h
    exact ⟨a, e, n, m, vs, k.1 a _ (fun z => n rfl (hS a z)) (fun _ z => by cases z) h1, Paired.mp pr fun p q ⟨h1, h2⟩ => ⟨h1, k.dr hS h2⟩⟩
  | dT kvs =>
    obtain ⟨a, e, n, m, o, es, ep, xs, e1, r1, r2, r3, r4, r5, r6, pr⟩ := h
    exact ⟨a, e, n, m, o, es, ep, xs, k.1 a _ (fun z => n rfl (hS a z)) (fun _ z => by unfold ObO at z; cases z) e1, r1, r2, r3, r4, r5, r6, Paired.mp pr fun p q ⟨h1, h2, h3, v, h4, h5⟩ => ⟨h1, h2, k.dr hS h3, v, h4, k.dr hS h5⟩⟩
  | fn i => exact h
  | town => exact h
  | scr => exact h
theorem Dv.keF {P : Program} {w : World} {K : PySem.W.Frag} {S S' : Addr → Prop} {H H' : Hp} {p : Addr} {d : D} (k : Ke S H H') (hS : ∀ a, S a → S' a) (n : ¬ S p) (h : Dv P w K τ S' false H (.ref p) d) : Dv P w K τ S' false H' (.ref p) d := by
  cases d with
  | dat d =>
    rcases (show DrI K S' H (.ref p) d from h) with h | ⟨a, xs, ds, e1, e2, e, q⟩
    · exact Or.inl (k.dr hS h)
    · cases e1
      exact Or.inr ⟨p, xs, ds, rfl, e2, k.1 p _ n (fun _ z => by cases z) e, k.drs hS q⟩
  | dK kvs =>
    obtain ⟨a, e, n', m, vs, h1, pr⟩ := h
    cases e
    exact ⟨p, rfl, n', m, vs, k.1 p _ n (fun _ z => by cases z) h1, Paired.mp pr fun p q ⟨h1, h2⟩ => ⟨h1, k.dr hS h2⟩⟩
  | dT kvs =>
    obtain ⟨a, e, n', m, o, es, ep, xs, e1, r1, r2, r3, r4, r5, r6, pr⟩ := h
    cases e
    exact ⟨p, rfl, n', m, o, es, ep, xs, k.1 p _ n (fun _ z => by unfold ObO at z; cases z) e1, r1, r2, r3, r4, r5, r6, Paired.mp pr fun p q ⟨h1, h2, h3, v, h4, h5⟩ => ⟨h1, h2, k.dr hS h3, v, h4, k.dr hS h5⟩⟩
  | fn i => exact h
  | town => exact h
  | scr => exact h
theorem Pst.wr {a : Ar} {env : Env} {σ : St} {H H' : Hp} {i : Nat} {l : Addr} {d d' : D} (R : a.Rp env σ H) (hi : env[i]? = some (some (true, d))) (hs : σ[i]? = some (some (.ref l))) (k : Ke (fun b => b = l) H H') (hd : Dv a.P a.w a.K a.τ (Av a.B env σ) false H' (.ref l) d') :
    Pst a env σ H (env.set i (some (true, d'))) σ H' := by
  have hl : Own env σ l := ⟨i, d, hi, hs⟩
  have hO : ∀ b, Own (env.set i (some (true, d'))) σ b → Own env σ b := fun b ⟨j, e, h1, h2⟩ => by
    rcases set_get h1 with ⟨rfl, z⟩ | ⟨hj, h1⟩
    · rw [hs] at h2
      cases h2
      exact hl
    · exact ⟨j, e, h1, h2⟩
  have hA : ∀ b, Av a.B (env.set i (some (true, d'))) σ b → Av a.B env σ b := fun b h => h.imp id (hO b)
  have kS : ∀ b, b = l → Av a.B env σ b := fun b z => by rw [z]; exact .inr hl
  refine ⟨⟨by rw [List.length_set]; exact R.len, fun j e h => ?_, fun j e h => ?_, fun j m b d1 d2 h1 h2 h3 h4 => ?_, fun b h => k.2.1 b (R.dom b h), R.tB⟩, k.mono fun b z => by rw [z]; exact .inr hl, fun b h => .inl (hO b h)⟩
  · rcases set_get h with ⟨_, z⟩ | ⟨hj, h⟩
    · cases z
    · obtain ⟨u, h1, h2⟩ := R.val j e h
      exact ⟨u, h1, Dv.mono hA (Dv.ke k kS h2)⟩
  · rcases set_get h with ⟨rfl, z⟩ | ⟨hj, h⟩
    · cases z
      obtain ⟨b, h1, h2, h3, h4⟩ := R.own j d hi
      rw [hs] at h1
      cases h1
      exact ⟨l, hs, h2, k.2.1 l h3, Dv.mono hA hd⟩
    · obtain ⟨b, h1, h2, h3, h4⟩ := R.own j e h
      exact ⟨b, h1, h2, k.2.1 b h3, Dv.mono hA (Dv.keF k kS (fun z => hj (R.inj j i b e d h hi h1 (by rw [z]; exact hs))) h4)⟩
  · have back : ∀ {j : Nat} {e : D}, (env.set i (some (true, d')))[j]? = some (some (true, e)) → ∃ e', env[j]? = some (some (true, e')) := fun {j e} h => by
      rcases set_get h with ⟨z, _⟩ | ⟨_, h⟩
      · exact ⟨d, by rw [z]; exact hi⟩
      · exact ⟨e, h⟩
    obtain ⟨e1, k1⟩ := back h1
    obtain ⟨e2, k2⟩ := back h2
    exact R.inj j m b e1 e2 k1 k2 h3 h4
theorem ownD_of {env : Env} {i : Nat} {d : D} (h : ownD env i = some d) : env[i]? = some (some (true, d)) := by
  unfold ownD at h
  split at h
  · cases h
    assumption
  · cases h
/-- the town is elsewhere -/
def Apart (τ : Tn) (l : Addr) (H H' : Hp) : Prop := ¬ τ.U l → ∀ s, TownR τ H s → TownR τ H' s
def rSto (P : Program) (w : World) (K : PySem.W.Frag) (τ : Tn) : TSet := fun o i v H Q => ∃ (S : Addr → Prop) (l : Addr) (m : D) (y d : PyData) (m' : D), o = .ref l ∧ S l ∧ (∀ a, S a → H a ≠ none) ∧ Dv P w K τ S false H (.ref l) m ∧ Dr K S H i y ∧ Dr K S H v d ∧ stoD m y d = some m' ∧
  ∀ H', Ke (fun b => b = l) H H' → Apart τ l H H' → Dv P w K τ S false H' (.ref l) m' → Q H'
theorem apart_lst {l : Addr} {xs ys : List V} {H : Hp} (h : H l = some (.lst xs)) : Apart τ l H (upd H l (.lst ys)) := fun n s t => t.upd h fun z e => n (.inr ⟨z, e⟩)
theorem apart_of {l : Addr} {H H' : Hp} (hb : ∀ b, b ≠ l → H' b = H b) (hT : ∀ T, LamX.Tabs T H → LamX.Tabs T H') : Apart τ l H H' := fun n s t => by
  have n1 : τ.ta ≠ l := fun e => n (.inl (.inl e.symm))
  have n2 : τ.ra ≠ l := fun e => n (.inl (.inr e.symm))
  refine ⟨by rw [hb _ n1]; exact t.1, by rw [hb _ n2]; exact t.2.1, t.2.2.1, hT _ t.2.2.2.1, ?_⟩
  have sc := t.2.2.2.2
  unfold Scr at sc ⊢
  by_cases hd : τ.dy = true
  · rw [if_pos hd] at sc ⊢
    unfold Rd
    rw [hb _ fun e => n (.inr ⟨hd, e.symm⟩)]
    exact sc
  · rw [if_neg hd] at sc ⊢
    exact sc
theorem set_all (g : Gd X) : PSet X (rSto X.prog X.w X.K τ) := by
  intro pins s σ H o i v ov iv u Q I ro ri rv ⟨S, l, m, y, d, m', e, hl, hS, hm, hy, hd, hg, q⟩
  subst e
  unfold stoD at hg
  split at hg
  · simp only [Option.map_eq_some_iff] at hg
    obtain ⟨j, hj, rfl⟩ := hg
    obtain ⟨a, xs, e, hx, hds⟩ := hm.i.lst
    cases e
    cases hy
    rw [← hds.length] at hj
    have ku := upd_ke (xs := xs.set j v) hx
    have kS : ∀ b, b = l → S b := fun b z => by rw [z]; exact hl
    exact set_list pins s σ H _ _ v ov iv u Q I ro ri rv ⟨l, xs, _, j, rfl, rfl, hx, hj, q _ ku (apart_lst hx) (Or.inr ⟨l, _, _, rfl, rfl, upd_same, (ku.drs kS hds).set (ku.dr kS hd) j⟩)⟩
  · rw [Option.bind_eq_some_iff] at hg
    obtain ⟨k, hk, hg⟩ := hg
    obtain ⟨hz, hg⟩ := Option.ite_none_right_eq_some.mp hg
    cases hg
    obtain ⟨a, e, hn, hT, hm⟩ := hm
    cases e
    cases ro
    exact put_dT g I hl hm hk hy hd ri rv hz fun H' ke hb ht hd' => q H' ke (apart_of hb ht) ⟨l, rfl, fun z => (by cases z), hT, hd'⟩
  · rw [Option.bind_eq_some_iff] at hg
    obtain ⟨k, hk, hg⟩ := hg
    obtain ⟨hz, hg⟩ := Option.ite_none_right_eq_some.mp hg
    cases hg
    obtain ⟨a, e, hn, hT, hm⟩ := hm
    cases e
    cases ro
    exact put_dK g I hl hm hk hy hd ri rv hz fun H' ke hb ht hd' => q H' ke (apart_of hb ht) ⟨l, rfl, fun z => (by cases z), hT, hd'⟩
  · cases hg
theorem ss_sto (g : Gd X) {e k : Expr} {o : Str} {i : Nat} {po p : Pos} {m mk : Env → M D} (hN : X.N[i]? = some o) (hv : Vis X.env.scope o) (hdb : (o == ("__debug__" : Str)) = false) (hcd : (o == ("__classdict__" : Str)) = false)
    (he : PE X e (tD (arOf X τ B E) true m)) (hk : PE X k (tD (arOf X τ B E) true mk)) (ha : ∀ v, assign (.Subscript (.Name o po) k p) X.env v = (do
      let ov ← holding [v] (eval (.Name o po) X.env)
      let iv ← holding [v, ov] (eval k X.env)
      standAt p
      holding [v, ov, iv] (setItem ov iv v)
      release [v, ov, iv] []))
    (hs : swapsWithSole [.Subscript (.Name o po) k p] e pos.line X.env = pure false) (hw : swappedStores [.Subscript (.Name o po) k p] e X.env = pure none) :
    PS X (.Assign [.Subscript (.Name o po) k p] e pos) (tS (arOf X τ B E) fun env => do
      let d ← datOf (← m env)
      let b ← M.of (ownD env i)
      let y ← datOf (← mk env)
      let b' ← M.of (stoD b y d)
      M.ret (.nx (env.set i (some (true, b'))))) := by
  refine (ps_asg he (pg_sub (pe_var hN hv hdb hcd) hk (set_all (τ := τ) g) ha) hs hw rfl).imp fun D σ H ⟨env, s, R, t, h⟩ => ?_
  refine ⟨env, s, R, t, (SOk.ok R t h).imp fun d s1 H1 e1 t1 q v dv => ?_⟩
  have R1 := R.xt t e1
  obtain ⟨d, rfl, q2⟩ := (SOk.ok R1 t1 q).dat
  obtain ⟨b, hb, q3⟩ := (SOk.ok R1 t1 (q2 H1 (Xt.refl H1) t1)).of
  have hb := ownD_of hb
  obtain ⟨l, hl, nB, nl, _⟩ := R1.own i b hb
  refine ⟨_, hl, env, s1, R1, t1, (SOk.ok R1 t1 (q3 H1 (Xt.refl H1) t1)).imp fun y s2 H2 e2 t2 q4 u du => ?_⟩
  have R2 := R1.xt t1 e2
  obtain ⟨y, rfl, q5⟩ := (SOk.ok R2 t2 q4).dat
  obtain ⟨b', hb', q6⟩ := (SOk.ok R2 t2 (q5 H2 (Xt.refl H2) t2)).of
  obtain ⟨l', hl', _, _, dl⟩ := R2.own i b hb
  rw [hl] at hl'
  cases hl'
  refine ⟨Av B env σ, l, b, y, d, b', rfl, .inr ⟨i, b, hb, hl⟩, R2.sdom, dl, du, Xt.dv (d := .dat d) e2 t1 R.tS dv, hb', fun H3 k3 ap dv3 => ?_⟩
  have p3 := Pst.wr R2 hb hl k3 dv3
  exact q6 H2 (Xt.refl H2) t2 σ H3 p3 (ap (fun z => nB (R.tB _ z)) s2 t2)
theorem ownL_of {env : Env} {i : Nat} {ds : List PyData} (h : ownL env i = some ds) : env[i]? = some (some (true, lst ds)) := by
  unfold ownL at h
  split at h
  · cases h
    assumption
  · cases h
theorem listD_of {d : D} {ds : List PyData} (h : listD d = some ds) : d = lst ds := by
  unfold listD at h
  split at h
  · cases h
    rfl
  · cases h
theorem ss_app {e : Expr} {o : Str} {i : Nat} {po ap cp : Pos} {m : Env → M D} (hN : X.N[i]? = some o) (hv : Vis X.env.scope o) (hdb : (o == ("__debug__" : Str)) = false) (hcd : (o == ("__classdict__" : Str)) = false)
    (he : PE X e (tD (arOf X τ B E) true m)) (ns : starred e = false) (hl : (ap.endLine == cp.line) = true) (hsw : swapsWith (.Call (.Attribute (.Name o po) "append" ap) [e] [] cp) none pos.line X.env = pure false) (hbase : attributeBase (.Name o po) "append" X.env (eval (.Name o po) X.env) = eval (.Name o po) X.env) :
    PS X (.Expr (.Call (.Attribute (.Name o po) "append" ap) [e] [] cp) pos) (tS (arOf X τ B E) fun env => do
      let xs ← M.of (ownL env i)
      let d ← datOf (← m env)
      if xs.length < sizeLine then M.ret (.nx (env.set i (some (true, lst (xs ++ [d]))))) else M.non) := by
  have hst : starEach [e] X.env = (false, eval e X.env) :: starEach [] X.env := star1 ns
  refine (ps_expr (pe_bm PySem.F.plainAttrs_list PySem.F.slot_list_append PySem.F.type_list_append mt_append (pe_var hN hv hdb hcd) (pa_cons he pa_nil hst) hbase (by rw [hst]; rfl) hl hst rfl) hsw).imp fun D σ H ⟨env, s, R, t, h⟩ => ?_
  obtain ⟨ds, hb, q⟩ := (SOk.ok R t h).of
  have hb := ownL_of hb
  obtain ⟨l, hl, nB, nl, dl⟩ := R.own i _ hb
  obtain ⟨l', xs, el, hx, _⟩ := dl.i.lst
  cases el
  refine ⟨_, hl, Or.inl ⟨rfl, _, SqL.of hx⟩, env, s, R, t, (SOk.ok R t (q H (Xt.refl H) t)).imp fun d s1 H1 e1 t1 q v dv => ?_⟩
  have R1 := R.xt t e1
  obtain ⟨d, rfl, q2⟩ := (SOk.ok R1 t1 q).dat
  obtain ⟨hz, q3⟩ := Wp.ifN (q2 H1 (Xt.refl H1) t1)
  obtain ⟨l', hl', _, _, dl1⟩ := R1.own i _ hb
  rw [hl] at hl'
  cases hl'
  obtain ⟨l', ys, el, hy, dys⟩ := dl1.i.lst
  cases el
  have ku := upd_ke (xs := ys ++ [v]) hy
  have kS : ∀ b, b = l → Av B env σ b := fun b z => by rw [z]; exact .inr ⟨i, _, hb, hl⟩
  refine ⟨l, ys, v, rfl, rfl, hy, by rw [dys.length]; exact hz, ?_⟩
  exact q3 σ _ (Pst.wr R1 hb hl ku (Or.inr ⟨l, _, _, rfl, rfl, upd_same, (ku.drs kS dys).append (.cons (ku.dr kS dv) .nil)⟩)) (apart_lst hy (fun z => nB (R.tB _ z)) s1 t1)
theorem ss_ext {e : Expr} {o : Str} {i : Nat} {po ap cp : Pos} {m : Env → M D} (hN : X.N[i]? = some o) (hv : Vis X.env.scope o) (hdb : (o == ("__debug__" : Str)) = false) (hcd : (o == ("__classdict__" : Str)) = false)
    (he : PE X e (tD (arOf X τ B E) true m)) (ns : starred e = false) (hl : (ap.endLine == cp.line) = true) (hsw : swapsWith (.Call (.Attribute (.Name o po) "extend" ap) [e] [] cp) none pos.line X.env = pure false) (hbase : attributeBase (.Name o po) "extend" X.env (eval (.Name o po) X.env) = eval (.Name o po) X.env) :
    PS X (.Expr (.Call (.Attribute (.Name o po) "extend" ap) [e] [] cp) pos) (tS (arOf X τ B E) fun env => do
      let xs ← M.of (ownL env i)
      let ys ← M.of (listD (← m env))
      if xs.length + ys.length ≤ sizeLine then M.ret (.nx (env.set i (some (true, lst (xs ++ ys))))) else M.non) := by
  have hst : starEach [e] X.env = (false, eval e X.env) :: starEach [] X.env := star1 ns
  refine (ps_expr (pe_bm PySem.F.plainAttrs_list PySem.F.slot_list_extend PySem.F.type_list_extend mt_extend (pe_var hN hv hdb hcd) (pa_cons he pa_nil hst) hbase (by rw [hst]; rfl) hl hst rfl) hsw).imp fun D σ H ⟨env, s, R, t, h⟩ => ?_
  obtain ⟨ds, hb, q⟩ := (SOk.ok R t h).of
  have hb := ownL_of hb
  obtain ⟨l, hl, nB, nl, dl⟩ := R.own i _ hb
  obtain ⟨l', xs, el, hx, _⟩ := dl.i.lst
  cases el
  refine ⟨_, hl, Or.inl ⟨rfl, _, SqL.of hx⟩, env, s, R, t, (SOk.ok R t (q H (Xt.refl H) t)).imp fun d s1 H1 e1 t1 q v dv => ?_⟩
  have R1 := R.xt t e1
  obtain ⟨es, hd, q2⟩ := (SOk.ok R1 t1 q).of
  obtain rfl := listD_of hd
  obtain ⟨hz, q3⟩ := Wp.ifN (q2 H1 (Xt.refl H1) t1)
  obtain ⟨l', hl', _, _, dl1⟩ := R1.own i _ hb
  rw [hl] at hl'
  cases hl'
  obtain ⟨l', ys, el, hy, dys⟩ := dl1.i.lst
  cases el
  have ku := upd_ke (xs := ys) hy
  have kS : ∀ b, b = l → Av B env σ b := fun b z => by rw [z]; exact .inr ⟨i, _, hb, hl⟩
  cases (show Dr X.K (Av B env σ) H1 v (.list es) from dv) with
  | lst hv n dvs =>
    rename_i b zs
    have ku := upd_ke (xs := ys ++ zs) hy
    refine ⟨l, b, ys, zs, rfl, rfl, hy, hv, by rw [dys.length, dvs.length]; exact hz, ?_⟩
    exact q3 σ _ (Pst.wr R1 hb hl ku (Or.inr ⟨l, _, _, rfl, rfl, upd_same, (ku.drs kS dys).append (ku.drs kS dvs)⟩)) (apart_lst hy (fun z => nB (R.tB _ z)) s1 t1)

/-! ### what is no longer written -/
theorem frz1 {a : Ar} {env : Env} {σ : St} {H : Hp} {i : Nat} {d : D} (R : a.Rp env σ H) (hi : env[i]? = some (some (true, d))) : Pst a env σ H (env.set i (some (false, d))) σ H := by
  obtain ⟨l, hl, nB, nl, dl⟩ := R.own i d hi
  have hO : ∀ b, Own (env.set i (some (false, d))) σ b → Own env σ b := fun b ⟨j, e, h1, h2⟩ => by
    rcases set_get h1 with ⟨rfl, z⟩ | ⟨hj, h1⟩
    · cases z
    · exact ⟨j, e, h1, h2⟩
  have hA : ∀ b, Av a.B (env.set i (some (false, d))) σ b → Av a.B env σ b := fun b h => h.imp id (hO b)
  have hn : ¬ Av a.B (env.set i (some (false, d))) σ l := fun z => by
    rcases z with z | ⟨j, e, h1, h2⟩
    · exact nB z
    · rcases set_get h1 with ⟨rfl, z⟩ | ⟨hj, h1⟩
      · cases z
      · exact hj (R.inj j i l e d h1 hi h2 hl)
  refine ⟨⟨by rw [List.length_set]; exact R.len, fun j e h => ?_, fun j e h => ?_, fun j k b d1 d2 h1 h2 h3 h4 => ?_, R.dom, R.tB⟩, (Al.refl H).ke, fun b h => .inl (hO b h)⟩
  · rcases set_get h with ⟨rfl, z⟩ | ⟨hj, h⟩
    · cases z
      refine ⟨.ref l, hl, Dv.keep (Dv.mono (fun b z => ?_) dl) hn⟩
      rcases z with z | z
      · exact hA b z
      · rw [z]
        exact .inr ⟨j, d, hi, hl⟩
    · obtain ⟨u, h1, h2⟩ := R.val j e h
      exact ⟨u, h1, Dv.mono hA h2⟩
  · rcases set_get h with ⟨rfl, z⟩ | ⟨hj, h⟩
    · cases z
    · obtain ⟨b, h1, h2, h3, h4⟩ := R.own j e h
      exact ⟨b, h1, h2, h3, Dv.mono hA h4⟩
  · rcases set_get h1 with ⟨_, z⟩ | ⟨_, h1⟩
    · cases z
    rcases set_get h2 with ⟨_, z⟩ | ⟨_, h2⟩
    · cases z
    exact R.inj j k b d1 d2 h1 h2 h3 h4
theorem frz_id {l : Env} {i : Nat} {d : D} (h : l[i]? = some (some (false, d))) : l.set i (some (false, d)) = l := by
  apply List.ext_getElem?
  intro j
  by_cases e : j = i
  · subst e
    rw [List.getElem?_set, if_pos rfl, if_pos (List.getElem?_eq_some_iff.mp h).1, h]
  · rw [List.getElem?_set_ne (Ne.symm e)]
theorem Pst.frz {a : Ar} {env : Env} {σ : St} {H : Hp} (R : a.Rp env σ H) : ∀ is : List Nat, Pst a env σ H (frzE env is) σ H
  | [] => Pst.refl R
  | i :: is => by
    have p := Pst.frz R is
    unfold frzE
    split
    · rename_i o d hd
      cases o with
      | true => exact p.trans (frz1 p.rp hd)
      | false => rw [frz_id hd]; exact p
    · exact p

/-! ### loops -/
theorem forGo_cons {turn : PyData → Env → M Fl} {x : PyData} {xs : List PyData} {env : Env} : forGo turn (x :: xs) env = (do match ← turn x env with
    | .nx env' => forGo turn xs env'
    | .rt d => M.ret (.rt d)) := rfl
theorem ss_for {tgx iter : Expr} {body : List Stmt} {tg : Tg} {mi : Env → M (List PyData)} {mb : Env → M Fl} (g : Gd X) (hp : PassesOwn (model X.prog X.w) X.A X.env X.xe) (hi : PI X tgx iter (tI (arOf X τ B E) true mi)) (hg : PG X tgx (tG (arOf X τ B E) tg)) (hb : PSs X body (tS (arOf X τ B E) mb))
    (hs : ∀ x, foldedSetIterable iter X.env x = pure x) : PS X (.For tgx iter body [] pos) (tS (arOf X τ B E) fun env => do
      let xs ← mi env
      forGo (fun x env => do
        let env' ← M.of (bindTg tg x env)
        mb env') xs env) := by
  refine (ps_for hp g.calm hi hg hb hs).imp fun D σ H ⟨env, s, R, t, h⟩ => ?_
  refine ⟨env, s, R, t, (SOk.ok R t h).imp fun ds s1 H1 e1 t1 q J hJ => ?_⟩
  have R1 := R.xt t e1
  refine ⟨fun i m σ' H' => m = ds.length - i ∧ i ≤ ds.length ∧ ∃ env' s', Pst (arOf X τ B E) env σ H1 env' σ' H' ∧ TownR τ H' s' ∧ SOk (arOf X τ B E) env' σ' H' D (forGo (fun x env => do
        let env' ← M.of (bindTg tg x env)
        mb env') (ds.drop i) env' s'), ⟨ds.length, by simp, Nat.zero_le _, env, s1, Pst.refl R1, t1, q⟩, ?_⟩
  rintro i m σ2 H2 ⟨rfl, hil, env2, s2, p2, t2, q2⟩
  have hS : ∀ b, (Av B env2 σ2 b ∨ Av B env σ b) → Av B env σ b ∨ H1 b = none := fun b z => by
    rcases z with (z | z) | z
    · exact .inl (.inl z)
    · exact (p2.own b z).imp .inr id
    · exact .inl z
  have kR : Ke (Av B env σ) H1 H2 := p2.ke.mono fun b z => z.imp (fun z => R.tB b (.inl z)) id
  obtain ⟨hgo, hst⟩ := hJ (fun b => Av B env2 σ2 b ∨ Av B env σ b) i H2 hS (fun b z => .inr z) kR
  by_cases hlt : i < ds.length
  · refine .inr ?_
    have hdi : ds[i]? = some ds[i] := by simp [hlt]
    obtain ⟨g1, g2⟩ := hgo _ hdi
    rw [List.drop_eq_getElem_cons hlt, forGo_cons] at q2
    refine ⟨g1, fun σ' H' => ∃ env3 s3, Pst (arOf X τ B E) env σ H1 env3 σ' H' ∧ TownR τ H' s3 ∧ SOk (arOf X τ B E) env3 σ' H' D (forGo (fun x env => do
        let env' ← M.of (bindTg tg x env)
        mb env') (ds.drop (i + 1)) env3 s3), fun σ' H' ⟨env3, s3, p3, t3, q3⟩ => ⟨ds.length - (i + 1), by omega, rfl, hlt, env3, s3, p3, t3, q3⟩, fun x H3 hy => ?_⟩
    obtain ⟨al, dx⟩ := g2 x H3 hy
    have R3 : Rep X.prog X.w X.K τ B env2 σ2 H3 := p2.rp.xt t2 al.xt
    have t3 := al.town t2
    have p3 : Pst (arOf X τ B E) env2 σ2 H2 env2 σ2 H3 := Pst.xt p2.rp t2 al.xt
    obtain ⟨env3, hbt, q3⟩ := (SOk.ok p2.rp t2 q2.seq).of
    refine swb_of (a := (arOf X τ B E)) R3 (Dr.mono (fun b z => .inl z) _ _ dx) hbt fun σ4 p4 => ?_
    refine ⟨env3, s2, p4.rp, t3, Wp.mono (q3 H3 al.xt t3) (fun fl s5 z => ?_) fun c s5 z H' k t => z H' (Ke.ext (Al.refl H3).ke k p4.ch) t⟩
    cases fl with
    | nx env5 =>
      intro σ5 H5 p5 t5
      obtain ⟨env6, s6, p6, t6, q6⟩ := z σ5 H5 (p4.trans p5) t5
      exact ⟨env6, s6, p2.trans p6, t6, q6⟩
    | rt d => exact fun v H' k t dv => z v H' (Ke.ext (Al.refl H3).ke k p4.ch) t dv
  · have e : i = ds.length := by omega
    subst e
    rw [List.drop_length] at q2
    exact .inl ⟨hst (Nat.le_refl _), q2 σ2 H2 (Pst.refl p2.rp) t2⟩
theorem ss_while {c : Expr} {body : List Stmt} {mc : Env → M Bool} {mb : Env → M Fl} {fu : Nat} (hp : PassesOwn (model X.prog X.w) X.A X.env X.xe) (hc : PT X c (tT (arOf X τ B E) mc)) (hb : PSs X body (tS (arOf X τ B E) mb)) :
    PS X (.While c body [] pos) (tS (arOf X τ B E) fun env => whGo mc mb fu env) := by
  refine (ps_while hp hc hb).imp fun D σ H ⟨env, s, R, t, h⟩ => ?_
  refine ⟨fun m σ' H' => ∃ env' s', Pst (arOf X τ B E) env σ H env' σ' H' ∧ TownR τ H' s' ∧ SOk (arOf X τ B E) env' σ' H' D (whGo mc mb m env' s'), ⟨fu, env, s, Pst.refl R, t, h⟩, ?_⟩
  rintro m σ1 H1 ⟨env1, s1, p1, t1, q⟩
  cases m with
  | zero => exact q.elim
  | succ m =>
    have q : SOk (arOf X τ B E) env1 σ1 H1 D ((mc env1 >>= fun b => if b = true then (do match ← mb env1 with
      | .nx env' => whGo mc mb m env'
      | .rt d => M.ret (.rt d)) else M.ret (.nx env1)) s1) := q
    refine ⟨env1, s1, p1.rp, t1, (SOk.ok p1.rp t1 q).imp fun b s2 H2 e2 t2 q2 => ?_⟩
    have p2 := p1.trans (Pst.xt p1.rp t1 e2)
    cases b with
    | true =>
      rw [if_pos rfl] at q2
      show ∃ N : St → Hp → Prop, _
      refine ⟨fun σ' H' => ∃ env3 s3, Pst (arOf X τ B E) env σ H env3 σ' H' ∧ TownR τ H' s3 ∧ SOk (arOf X τ B E) env3 σ' H' D (whGo mc mb m env3 s3), fun σ' H' ⟨env3, s3, p3, t3, q3⟩ => ⟨m, Nat.lt_succ_self m, env3, s3, p3, t3, q3⟩, env1, s2, p2.rp, t2, Wp.mono q2.seq (fun fl s5 z => ?_) fun _ _ z => z⟩
      cases fl with
      | nx env5 =>
        intro σ5 H5 p5 t5
        obtain ⟨env6, s6, p6, t6, q6⟩ := z σ5 H5 p5 t5
        exact ⟨env6, s6, p2.trans p6, t6, q6⟩
      | rt d => exact z
    | false =>
      rw [if_neg Bool.false_ne_true] at q2
      exact q2 σ1 H2 (Pst.refl p2.rp) t2
end
end BK
set_option Elab.async false
set_option linter.all false
set_option maxRecDepth 100000
set_option maxHeartbeats 4000000
/-! The small language says the truth: expressions. -/
namespace BK
open PySem L2

/-- the built-in names that are leant on -/
def biNames : List Str := ["len", "all", "tuple", "list", "sorted", "min", "str", "int", "range", "zip", "enumerate", "isinstance", "bool", "set", "dict"]
section
variable {nm : Nm}
theorem ck_star {sc : Scope} (c : CE) (x : Expr) (p : Pos) : ck nm sc c (.Starred x p) = false := by
  cases c <;> rfl
theorem ck_ns {sc : Scope} {c : CE} {e : Expr} (h : ck nm sc c e = true) : starred e = false := by
  cases e <;> first
    | rfl
    | (rw [ck_star] at h; cases h)
theorem ck_set {sc : Scope} (c : CE) (l : List Expr) (k : Nat) (p : Pos) : ck nm sc c (.Set l k p) = false := by
  cases c <;> rfl
theorem ckI_fold {sc : Scope} {c : CI} {e t : Expr} {env : PySem.Env} (h : ckI nm sc c e t = true) : ∀ x, foldedSetIterable e env x = pure x := by
  intro x
  cases e <;> first
    | rfl
    | (cases c <;> first
        | (simp only [ckI, ck_set] at h; cases h)
        | (simp [ckI] at h))
theorem nm_of {nm : Nm} {x : Str} {i : Nat} (h : (nm.N[i]? == some x) = true) : nm.N[i]? = some x := by simpa using h
theorem dbg_of {x : Str} (h : notDbg x = true) : (x == ("__debug__" : Str)) = false ∧ (x == ("__classdict__" : Str)) = false := by
  unfold notDbg at h
  simp only [Bool.and_eq_true, Bool.not_eq_true'] at h
  exact h.1
theorem isNm_of {sc : Scope} {x : Str} {e : Expr} (h : isNm sc x e = true) : ∃ p, e = .Name x p ∧ sc.names.lookup x = some .globalImplicit := by
  unfold isNm at h
  split at h
  · simp only [Bool.and_eq_true, beq_iff_eq] at h
    obtain ⟨rfl, h2⟩ := h
    exact ⟨_, rfl, glB_of h2⟩
  · cases h
def CEs.ex : CEs → List CE
  | .nil => []
  | .cons e r => e :: r.ex
theorem cks_ns {sc : Scope} : ∀ {es : CEs} {l : List Expr}, cks nm sc es l = true → ∀ e ∈ l, starred e = false
  | .nil, [], _, e, h => by cases h
  | .nil, _ :: _, h, _, _ => by simp [cks] at h
  | .cons _ _, [], h, _, _ => by simp [cks] at h
  | .cons c r, x :: l, h, e, he => by
    simp only [cks, Bool.and_eq_true] at h
    rcases List.mem_cons.mp he with rfl | he
    · exact ck_ns h.1
    · exact cks_ns h.2 e he
end
/-- an assignment of a tuple whose stores are not swapped -/
theorem swN {ts vs : List Expr} {kt k2 : Nat} {pt pt2 : Pos} {env : PySem.Env} (h : (vs.all (foldedForSure 8) || decide (3 < ts.length)) = true) : swappedStores [.Tuple ts kt pt] (.Tuple vs k2 pt2) env = pure none := by
  unfold swappedStores
  dsimp only
  rw [Bool.or_eq_true] at h
  by_cases h1 : (!(ts.length == 2 || ts.length == 3) || vs.length != ts.length || env.blockKind != .function) = true
  · rw [if_pos h1]
  refine (if_neg h1).trans ?_
  rcases h with h | h
  · split
    · rfl
    · split
      · rfl
      · rfl
  · refine absurd ?_ h1
    have := of_decide_eq_true h
    have a1 : (ts.length == 2) = false := by rw [beq_eq_false_iff_ne]; omega
    have a2 : (ts.length == 3) = false := by rw [beq_eq_false_iff_ne]; omega
    rw [a1, a2]
    rfl
theorem M.assoc {α β γ : Type} (x : M α) (f : α → M β) (g : β → M γ) : M.bnd (M.bnd x f) g = M.bnd x fun a => M.bnd (f a) g := by
  funext s
  unfold M.bnd
  cases x s <;> rfl
theorem M.left {α β : Type} (a : α) (f : α → M β) : M.bnd (M.ret a) f = f a := rfl
theorem M.right {α : Type} (x : M α) : M.bnd x M.ret = x := by
  funext s
  unfold M.bnd
  cases x s <;> rfl
abbrev GG (Gs : Nat → List Int → Fun) (τ : Tn) : Nat → Fun := fun i => Gs i τ.scr
/-- a list comprehension that goes straight into its name -/
def swB (sc : Scope) : Expr → Str → Pos → Bool
  | .ListComp _ _ scope q, x, p => sc.names.lookup x == some .local && p.line == q.line && !(scope.names.any fun (n, k) => n == x && (k == .local || k == .cell))
  | _, _, _ => false
theorem swB_eq {v : Expr} {x : Str} {p : Pos} {l : Nat} {env : PySem.Env} (hk : env.blockKind = .function) (h : (match v with | .SetComp .. => false | .DictComp .. => false | _ => true) = true) : swapsWith v (some (.Name x p)) l env = pure (swB env.scope v x p) := by
  cases v <;> first
    | rfl
    | (cases h; done)
    | skip
  rename_i elt gs scope q
  unfold swapsWith swB
  simp only [hk]
  rfl
end BK
set_option Elab.async false
set_option linter.all false
set_option maxRecDepth 100000
set_option maxHeartbeats 2000000
/-! Errors: a try whose error is looked at behind it; d.update(e). -/
namespace BK
open PySem PySem.Spec PyProof.Rows L2
/-! ### behind the suite the error's object is kept -/
section
variable {X : Cx} {pins : List (Addr × Obj)} {σ : L2.St} {H : Hp} {s : Shared}
theorem keepPin {a : Addr} {q : Addr × Obj} {pn' : List (Addr × Obj)} (I : Inv (X.suite a (q :: (X.pn ++ pins))) pn' σ H s) (ok : X.Ok) : Inv (X.tr (q :: (X.pn ++ pins)) X.xe) [] σ H s :=
  ⟨ok.toTry _ _, I.os, I.bare, I.base, I.loc, I.cell, I.free, I.freeC, fun p hp => by
    rw [List.append_nil] at hp
    exact I.pin p (List.mem_append_left _ hp), I.hok, I.len⟩
theorem dropPin {q : Addr × Obj} {pn' : List (Addr × Obj)} {xe : Value → Shared → Prop} (I : Inv (X.tr (q :: (X.pn ++ pins)) xe) pn' σ H s) (ok : X.Ok) : Inv X pins σ H s :=
  ⟨ok, I.os, I.bare, I.base, I.loc, I.cell, I.free, I.freeC, fun p hp => I.pin p (List.mem_append_left _ (List.mem_cons_of_mem _ hp)), I.hok, I.len⟩
theorem sp_drop {q : Addr × Obj} {D : Ends} {f : Flow} {xe : Value → Shared → Prop} (ok : X.Ok) (h : SP (X.tr (q :: (X.pn ++ pins)) xe) [] D f s) : SP X pins D f s := by
  cases f with
  | ret u => exact let ⟨v, σ', H', J, r, z⟩ := h; ⟨v, σ', H', dropPin J ok, r, z⟩
  | next => exact let ⟨σ', H', J, z⟩ := h; ⟨σ', H', dropPin J ok, z⟩
  | brk => exact let ⟨σ', H', J, z⟩ := h; ⟨σ', H', dropPin J ok, z⟩
  | cont => exact let ⟨σ', H', J, z⟩ := h; ⟨σ', H', dropPin J ok, z⟩
end
/-- the error of the body is of the class c; the suite binds it to slot i, what follows goes on with it -/
def wRest (K : PySem.W.Frag) (c : Value) (i n : Nat) (ts tr : Addr → Value → Option Addr → TS) (D : Ends) : WX := fun cls d σ H =>
  PySem.W.exmOne K cls c = some true ∧ ∀ a, H a = none → σ.length = n → ts a cls d { nx := fun σ' H' => tr a cls d D (σ'.set i none) H', rt := fun _ _ => False } (σ.set i (some (.ref a))) H
section
variable {X : Cx} {x n : Str} {c : Value} {i : Nat} {body suite rest : List Stmt} {b₀ : Stmt} {np pos pos' : Pos} {tb : WX → TS} {ts tr : Addr → Value → Option Addr → TS} {tp : TS}
theorem ps_tryRest (hs : X.stack = X.env :: X.outer) (hf : X.env.frame = some X.env.locals) (hN : X.N.Nodup) (hi : X.N[i]? = some n) (hln : X.env.kindOf n = some .local) (hc : Names X x c)
    (hb : ∀ (W : WX) (pn : List (Addr × Obj)) (xe : Value → Shared → Prop), Takes (X.tr pn xe) W → PassesOwn (model X.prog X.w) X.A X.env xe → PSs (X.tr pn xe) body (tb W))
    (hsu : ∀ (a : Addr) (oe : Obj) (cls : Value) (d : Option Addr) (pn : List (Addr × Obj)), Zc cls d oe → (∃ vs, oe.data = .fields vs) → PSs (X.suite a ((a, oe) :: pn)) (b₀ :: suite) (ts a cls d))
    (hr : ∀ (a : Addr) (oe : Obj) (cls : Value) (d : Option Addr) (pn : List (Addr × Obj)), Zc cls d oe → (∃ vs, oe.data = .fields vs) → PSs (X.tr ((a, oe) :: pn) X.xe) rest (tr a cls d)) (hp : PSs X rest tp) :
    PSs X (.Try body [.ExceptHandler (some (.Name x np)) (some n) (b₀ :: suite) pos'] [] [] pos :: rest) (fun D σ H => tb (wRest X.K c i X.N.length ts tr D) { D with nx := tp D } σ H) := by
  refine ⟨fun pins s σ H D I h => wpAny_execs_cons (wpAny_Try_except ?_)⟩
  have ok := I.ok
  have frm : X.A.frames = some (X.env :: X.outer) := ok.frames.trans (congrArg some hs)
  -- what is to come behind the clause
  let After : Flow → Shared → Prop := fun f s' => match f with
    | .next => wpAny (model X.prog X.w) X.A (execs rest X.env) (SP X pins D) X.xe s'
    | f => SP X pins D f s'
  let Air : Value → Shared → Prop := fun e t => wpAny (model X.prog X.w) X.A (noteFrame e X.env) (fun _ t₂ => wpAny (model X.prog X.w) X.A (setFlight e none) (fun _ t₃ =>
    wpAny (model X.prog X.w) X.A (handleBy e X.env [.ExceptHandler (some (.Name x np)) (some n) (b₀ :: suite) pos']) After X.xe t₃) X.xe t₂) X.xe t
  have caught : Takes (X.tr (X.pn ++ pins) Air) (wRest X.K c i X.N.length ts tr D) := fun u t air => by
    obtain ⟨a, B, sI, pins', σ', H', cls, d, rfl, J', nb, up, sky, na, os, ag, hm, hyes⟩ := air
    have J : Inv X pins σ' H' sI := J'.ofTry ok
    have sky2 : Sky B (X.env :: X.outer) a (Zc cls d) X.env.locals t.heap := hs ▸ sky
    show wpAny (model X.prog X.w) X.A (noteFrame (.ref a) X.env) _ _ _
    refine Sky.land Zc.steady frm hf sky2 fun g3 y3 u3 => ?_
    have up3 := up.trans u3
    have K3 : Inv X pins σ' H' { t with heap := g3 } := J.landed nb y3.1 up3 os ag
    obtain ⟨o3, w3, e3, z3, d3⟩ := y3.there
    have far : a ∉ frs (X.env :: X.outer) := fun hm => by
      obtain ⟨_, o', e', no⟩ := y3.2.2.1.mem hm
      rw [e3] at e'
      cases e'
      exact no _ d3
    have farL : a ≠ X.env.locals := fun z => far (List.mem_filterMap.mpr ⟨X.env, List.mem_cons_self, by rw [hf, z]⟩)
    have farF : a ∉ X.fs := fun hm => by
      obtain ⟨e, he, q⟩ := List.mem_filterMap.mp hm
      exact far (List.mem_filterMap.mpr ⟨e, List.mem_cons_of_mem _ he, q⟩)
    have T3 := K3.suite e3 d3 na farL farF
    have see : PySem.W.Looks (model X.prog X.w) g3 (typeOf (.ref a)) cls := fun A Q E s k q => wpAny_typeOf_ref (k _ _ e3) (by rw [z3.1]; exact q)
    have ask := PySem.W.exm_one (M := model X.prog X.w) K3.kIn see hm
    refine wpAny_handleBy_cons (codeAny_handlers_test ?_) (fun q => by cases q)
    have named : ∀ {Q : Value → Shared → Prop} {E : Value → Shared → Prop}, Q c { t with heap := g3 } → wpAny (model X.prog X.w) (X.A.mark (some (.ref a))) (eval (.Name x np) X.env) Q E { t with heap := g3 } := fun {Q E} q => by
      obtain ⟨hg, hdbg, hm | ⟨hm, hv, hnn⟩⟩ := hc
      · exact ld_glob (X := X.suite a ((a, o3) :: (X.pn ++ pins))) T3 hg hm q hdbg
      · exact ld_blt (X := X.suite a ((a, o3) :: (X.pn ++ pins))) T3 hg hm hv q hnn hdbg
    refine named (ask.here (codeAny_handlers_suite_as (HandSPX.lands_againZ y3 fun g4 y4 u4 => ?_)))
    have K4 : Inv X pins σ' H' { t with heap := g4 } := J.landed nb y4.1 (up3.trans u4) os ag
    obtain ⟨o4, w4, e4, z4, d4⟩ := y4.there
    have T4 := K4.suite e4 d4 na farL farF
    refine store_ok (X := X.suite a ((a, o4) :: (X.pn ++ pins))) (v := .ref a) T4 hN hi (.inl hln) rfl (fun t5 T5 => ?_) (.inr hln)
    refine wpAny_mono ((hsu a o4 cls d (X.pn ++ pins) z4 ⟨_, d4⟩).run [] t5 _ H' _ T5 (hyes a na J.len)) (fun f t6 q => ?_) (fun _ _ z => False.elim z)
    cases f with
    | next =>
      obtain ⟨σ6, H6, T6, q6⟩ := q
      refine gone_ok (X := X.tr ((a, o4) :: (X.pn ++ pins)) X.xe) (keepPin T6 ok) hN hi hln fun t7 T7 => ?_
      show wpAny (model X.prog X.w) X.A (execs rest X.env) (SP X pins D) X.xe t7
      exact wpAny_mono ((hr a o4 cls d (X.pn ++ pins) z4 ⟨_, d4⟩).run [] t7 _ H6 D T7 q6) (fun f t8 z => sp_drop ok z) fun _ _ z => z
    | ret u => exact let ⟨_, _, _, _, _, z⟩ := q; z.elim
    | brk => exact let ⟨_, _, _, z⟩ := q; False.elim z
    | cont => exact let ⟨_, _, _, z⟩ := q; False.elim z
  refine wpAny_mono ((hb _ (X.pn ++ pins) Air caught PassesOwn.looking).run [] s σ H { D with nx := tp D } (I.toTry _) h) (fun f s1 q => ?_) fun e s1 he => he
  cases f with
  | next => exact let ⟨σ', H', J, z⟩ := q; wpAny_execs_nil (hp.run pins s1 σ' H' D (J.ofTry ok) z)
  | ret u => exact let ⟨v, σ', H', J, r, z⟩ := q; ⟨v, σ', H', J.ofTry ok, r, z⟩
  | brk => exact let ⟨σ', H', J, z⟩ := q; ⟨σ', H', J.ofTry ok, z⟩
  | cont => exact let ⟨σ', H', J, z⟩ := q; ⟨σ', H', J.ofTry ok, z⟩
end
/-- isinstance of an error whose object is kept -/
theorem call_isK {X : Cx} {a D : Addr} {oe : Obj} {pn : List (Addr × Obj)} {xe : Value → Shared → Prop} (C : ExcC X.K D) (hz : Zc (.ref D) none oe) (hf : ∃ vs, oe.data = .fields vs) : CallR (X.tr ((a, oe) :: pn) xe) (.builtin "isinstance") (rIsE X.K D a) := by
  intro pins s σ H xs us Q I r ⟨c, cv, b, e, hcv, ek, q⟩
  subst e
  match us, r with
  | [u, t], .cons ru (.cons rt .nil) =>
    cases ru
    have ec := hcv _ rt
    subst ec
    have pin := (I.pin (a, oe) (List.mem_append_left _ List.mem_cons_self)).1
    obtain ⟨vs, hv⟩ := hf
    obtain ⟨oc, od, oda, osl⟩ := oe
    obtain ⟨h1, h2⟩ := hz
    have h1 : oc = .ref D := h1
    have h2 : od = none := h2
    have hv : oda = .fields vs := hv
    subst h1 h2 hv
    exact PySem.W.kia_one (PySem.W.handS_kitx_exc C.hg C.hk C.hs C.hd C.ha C.hn C.ht C.hm) I.kIn (⟨pin, rfl, rfl, trivial⟩ : PySem.W.InstAt s.heap a _ D none) ek (fun z => by cases z) fun tk => ⟨.bl b, H, I.kept (t' := tk) fun _ _ z => z, rfl, q⟩
/-! ### d.update(e) -/
def rDUpd : V → List V → Hp → VK → Prop := fun x vs H Q => ∃ (a b : Addr) (kvs more : List (Key × V)), x = .ref a ∧ vs = [.ref b] ∧ a ≠ b ∧ H a = some (.dK kvs) ∧ H b = some (.dK more) ∧ kvs.length + more.length ≤ 1000 ∧ Q .non (upd H a (.dK (mergeK kvs more)))
theorem mergeK_len : ∀ (more kvs : List (Key × V)), (mergeK kvs more).length ≤ kvs.length + more.length
  | [], kvs => Nat.le_refl _
  | p :: more, kvs => by
    have h1 : mergeK kvs (p :: more) = mergeK (putK kvs p.1 p.2) more := rfl
    have h2 := mergeK_len more (putK kvs p.1 p.2)
    have h3 : (putK kvs p.1 p.2).length ≤ kvs.length + 1 := by
      unfold putK
      split <;> simp
    rw [h1, List.length_cons]
    omega
theorem mtd_update {X : Cx} : MtR X "dict.update" rDUpd := by
  intro pins s σ H x vs v us Q I rx rv ⟨a, b, kvs, more, ex, ev, hab, ha, hb, hl, q⟩
  subst ex ev
  cases rx
  match us, rv with
  | [u], .cons ru .nil =>
    cases ru
    obtain ⟨z1, hd1, vs1, rel1, dd1⟩ := dk_of I.hok ha
    obtain ⟨z2, hd2, vs2, rel2, dd2⟩ := dk_of I.hok hb
    have l1 := rel1.length
    have l2 := rel2.length
    refine call_meetsIn PySem.F.slot_dict_update dd1.typeIs PySem.F.entry_dict_update (PySem.F.args_dict_update_2 _ _) (meets_dict_update (mixKind X.prog X.w) a b hab hd2)
      ⟨vs1, vs2, dd1, dd2, by rw [← l1, ← l2, sizeLine_eq]; omega, fun h' hm _ hs => ?_⟩
    have he : ∃ q, h'.get? a = some q := let ⟨q, _, _, hq, _⟩ := hm; ⟨q, hq⟩
    have hml := mergeK_len more kvs
    exact ⟨.non, _, d_write (t' := s.toks) I (by rw [ha]; exact True.intro) hs he (dk_new (by rw [sizeLine_eq]; omega) hd1 (rel2.merge rel1) hm), rfl, q⟩
end BK
set_option Elab.async false
set_option linter.all false
set_option maxRecDepth 100000
set_option maxHeartbeats 2000000
/-! The def that tells an answer or an error's name. -/
namespace BK
open PySem PySem.Spec PyProof.Rows L2
def exN : List Str := ["InvalidItems", "InvalidAction", "InvalidState", "InvalidPlan", "InvalidGuards", "InvalidStart", "InvalidRun", "InvalidOrder", "InvalidOutcome", "InvalidText", "Ended", "NothingToUndo"]
def resN : List Str := ["_law_call", "_law_raised", "_law_answer", "e", "_law_some", "_law_name", "_law_names"]
/-- what is asked of the i-th class of errors -/
structure ExK (K : PySem.W.Frag) (ca : Nat → Addr) (cs : Addr) (i : Nat) : Prop where
  c : ExcC K (ca i)
  st : PySem.W.exmOne K (.ref (ca i)) (.ref cs) = some true
  ve : PySem.W.kitOne K (.ref (ca i)) (.type "ValueError") = some true
  is : ∀ j, j < 12 → PySem.W.kitOne K (.ref (ca i)) (.ref (ca j)) = some (decide (i = j))
structure RsX (X : Cx) (ca : Nat → Addr) (cs : Addr) : Prop where
  se : X.mg "StepError" = some (.ref cs)
  ex : ∀ (i : Nat) (x : Str), exN[i]? = some x → X.mg x = some (.ref (ca i))
  ve : X.mg "ValueError" = none
  isi : X.mg "isinstance" = none
  len : X.mg "len" = none
  k : ∀ i, i < 12 → ExK X.K ca cs i
/-! ### the text -/
def isV (x : Str) : Expr → Bool
  | .Name y _ => y == x
  | _ => false
def isC0 (c : PyData) : Expr → Bool
  | .Constant k _ _ => constOk c k
  | _ => false
section
variable (sc : Scope)
def mIs (c : Str) : Expr → Bool
  | .Call f [.Name y _, .Name z _] [] _ => isNm sc "isinstance" f && y == ("_law_raised" : Str) && z == c && glB sc z
  | _ => false
def mDict (k1 c1 k2 c2 : Str) : Expr → Bool
  | .Dict [some (.Constant a _ _), some (.Constant b _ _)] [u, v] _ => constOk (.str k1) a && constOk (.str k2) b && mIs sc c1 u && mIs sc c2 v
  | _ => false
def mUpd (k1 c1 k2 c2 : Str) : Stmt → Bool
  | .Expr (.Call (.Attribute (.Name o _) n ap) [v] [] cp) _ => n == ("update" : Str) && o == ("_law_some" : Str) && ap.endLine == cp.line && mDict sc k1 c1 k2 c2 v
  | _ => false
def mBegin : Stmt → Bool
  | .Assign [.Tuple [.Name x _, .Name y _] _ _] (.Tuple [.Constant .none _ _, .Constant .none _ _] _ _) _ => x == ("_law_raised" : Str) && y == ("_law_answer" : Str)
  | _ => false
def mTry : Stmt → Bool
  | .Try [.Assign [.Name x _] (.Call (.Name f _) [] [] _) _] [.ExceptHandler (some (.Name t _)) (some n) [.Assign [.Name y _] (.Name z _) _] _] [] [] _ => x == ("_law_answer" : Str) && f == ("_law_call" : Str) && t == ("StepError" : Str) && n == ("e" : Str) && y == ("_law_raised" : Str) && z == ("e" : Str)
  | _ => false
def mIf : Stmt → Bool
  | .If (.Compare (.Name x _) [.Is] [.Constant .none _ _] _) [.Return (some (.Tuple [.Constant a _ _, .Name y _] _ _)) _] [] _ => x == ("_law_raised" : Str) && constOk (.str "returns") a && y == ("_law_answer" : Str)
  | _ => false
def mSome : Stmt → Bool
  | .Assign [.Name x _] d _ => x == ("_law_some" : Str) && mDict sc "items" "InvalidItems" "action" "InvalidAction" d
  | _ => false
def mNames : Stmt → Bool
  | .Assign [.Name x px] (.ListComp (.Name e _) [⟨.Name t _, .Name i _, [.Subscript (.Name o _) (.Name k _) _], 0⟩] scope q) _ => x == ("_law_names" : Str) && e == ("_law_name" : Str) && t == ("_law_name" : Str) && i == ("_law_some" : Str) && o == ("_law_some" : Str) && k == ("_law_name" : Str) &&
    px.line == q.line && !(scope.names.any fun (n, k) => n == x && (k == .local || k == .cell)) && blkC resN sc scope [("_law_name", 5)] && locB (relS scope sc) "_law_name" && (blkFn scope "_law_name" || (relS scope sc).names.lookup ("_law_name" : Str) == some .local) && visB (relS scope sc) "_law_some" && visB (relS scope sc) "_law_name"
  | _ => false
def mRet : Stmt → Bool
  | .Return (some (.IfExp (.BoolOp .And [.Compare (.Call f [.Name x _] [] _) [.Eq] [.Constant a _ _] _, w] _) (.Tuple [.Subscript (.Name y _) (.Constant b _ _) _] _ _) (.Tuple [.Constant c _ _] _ _) _)) _ => isNm sc "len" f && x == ("_law_names" : Str) && constOk (.int 1) a && y == ("_law_names" : Str) && constOk (.int 0) b && constOk (.str "other error") c &&
    (match w with
    | .Call g [.Name z _, .Name t _] [] _ => isNm sc "isinstance" g && z == ("_law_raised" : Str) && t == ("ValueError" : Str) && glB sc t
    | _ => false)
  | _ => false
def mScope : Bool := (["_law_call", "_law_raised", "_law_answer", "e", "_law_names"] : List Str).all (fun x => sc.names.lookup x == some .local) && locB sc "_law_some" && glB sc "StepError"
def ckRes : List Stmt → Bool
  | [a, b, c, d, u1, u2, u3, u4, u5, e, r] => mScope sc && mBegin a && mTry b && mIf c && mSome sc d && mUpd sc "state" "InvalidState" "plan" "InvalidPlan" u1 && mUpd sc "guards" "InvalidGuards" "start" "InvalidStart" u2 && mUpd sc "run" "InvalidRun" "order" "InvalidOrder" u3 &&
    mUpd sc "outcome" "InvalidOutcome" "text" "InvalidText" u4 && mUpd sc "ended" "Ended" "undo" "NothingToUndo" u5 && mNames sc e && mRet sc r
  | _ => false
end
/-! ### the parts -/
section
variable {X : Cx} {ca : Nat → Addr} {cs a : Addr} {i : Nat} {oe : Obj} {pn : List (Addr × Obj)} {xe : Value → Shared → Prop}
/-- the slot of the error -/
def tErr (a : Addr) (b : Bool) : TE := fun σ H Q => σ[1]? = some (some (.ref a)) ∧ Q (.bl b) H
theorem pe_mIs {j : Nat} {c : Str} {e : Expr} (R : RsX X ca cs) (hN : X.N = resN) (hl : X.env.scope.names.lookup ("_law_raised" : Str) = some .local) (hi : i < 12) (hj : exN[j]? = some c) (hz : Zc (.ref (ca i)) none oe) (hf : ∃ vs, oe.data = .fields vs) (h : mIs X.env.scope c e = true) :
    PE (X.tr ((a, oe) :: pn) xe) e (tErr a (decide (i = j))) := by
  unfold mIs at h
  split at h <;> try (cases h; done)
  simp only [Bool.and_eq_true, beq_iff_eq] at h
  obtain ⟨⟨⟨h1, rfl⟩, e2⟩, h4⟩ := h
  have e2 := e2.symm
  subst e2
  obtain ⟨p, rfl, hg⟩ := isNm_of h1
  have hj12 : j < 12 := (List.getElem?_eq_some_iff.mp hj).1
  have hd : (c == ("__debug__" : Str)) = false ∧ c ≠ "__name__" := by
    unfold exN at hj
    match j, hj12 with
    | 0, _ => cases hj; decide
    | 1, _ => cases hj; decide
    | 2, _ => cases hj; decide
    | 3, _ => cases hj; decide
    | 4, _ => cases hj; decide
    | 5, _ => cases hj; decide
    | 6, _ => cases hj; decide
    | 7, _ => cases hj; decide
    | 8, _ => cases hj; decide
    | 9, _ => cases hj; decide
    | 10, _ => cases hj; decide
    | 11, _ => cases hj; decide
  have hN1 : X.N[1]? = some ("_law_raised" : Str) := by rw [hN]; rfl
  refine (pe_callB (X := X.tr ((a, oe) :: pn) xe) (call_isK (xe := xe) (R.k i hi).c hz hf) (show Gl X "isinstance" from hg) R.isi boot_isinst (pa_cons (pe_var (i := 1) hN1 (.inl hl)) (pa_cons (pe_glob (v := .ref (ca j)) (show Gl X c from glB_of h4) (R.ex j c hj) rfl hd.1) pa_nil rfl) rfl)).imp fun σ H Q ⟨h1, q⟩ => ?_
  refine ⟨.ref a, h1, .ref (ca j), .ref (ca j), decide (i = j), rfl, fun u e => ?_, (R.k i hi).is j hj12, q⟩
  exact e
theorem con_str {k : Str} {a : Const} {n : Nat} {p : Pos} (h : constOk (.str k) a = true) : PE X (.Constant a n p) (tC (.str k)) := by
  cases a with
  | str x =>
    have : k = x := eq_of_beq h
    rw [this]
    exact pe_str
  | _ => cases h
theorem con_int {k : Int} {a : Const} {n : Nat} {p : Pos} (h : constOk (.int k) a = true) : PE X (.Constant a n p) (tC (.int k)) := by
  cases a with
  | int x =>
    have : k = x := eq_of_beq h
    rw [this]
    exact pe_int
  | _ => cases h
/-- a new dict of two -/
def tTwo (a : Addr) (k1 k2 : Str) (b1 b2 : Bool) : TE := fun σ H Q => σ[1]? = some (some (.ref a)) ∧ ∀ p, H p = none → Q (.ref p) (upd (upd H p (.dK [])) p (.dK (mergeK [] [(.inr k1, .bl b1), (.inr k2, .bl b2)])))
theorem pe_mDict {j l : Nat} {k1 c1 k2 c2 : Str} {e : Expr} (R : RsX X ca cs) (hN : X.N = resN) (hl : X.env.scope.names.lookup ("_law_raised" : Str) = some .local) (hi : i < 12) (hj : exN[j]? = some c1) (hj2 : exN[l]? = some c2) (hz : Zc (.ref (ca i)) none oe) (hf : ∃ vs, oe.data = .fields vs) (h : mDict X.env.scope k1 c1 k2 c2 e = true) :
    PE (X.tr ((a, oe) :: pn) xe) e (tTwo a k1 k2 (decide (i = j)) (decide (i = l))) := by
  unfold mDict at h
  split at h <;> try (cases h; done)
  simp only [Bool.and_eq_true] at h
  obtain ⟨⟨⟨h1, h2⟩, h3⟩, h4⟩ := h
  refine (pe_disp (pps_cons (con_str h1) (pe_mIs R hN hl hi hj hz hf h3) (pps_cons (con_str h2) (pe_mIs R hN hl hi hj2 hz hf h4) pps_nil)) rfl rfl (by simp) (by simp)).imp fun σ H Q ⟨h1, q⟩ p np => ?_
  exact ⟨h1, h1, upd_same, [(.inr k1, .bl (decide (i = j))), (.inr k2, .bl (decide (i = l)))], rfl, (by show 2 ≤ 15; decide), q p np⟩
def tUp (a : Addr) (k1 k2 : Str) (b1 b2 : Bool) : TS := fun D σ H => ∃ ds kvs, σ[4]? = some (some (.ref ds)) ∧ H ds = some (.dK kvs) ∧ kvs.length ≤ 100 ∧ σ[1]? = some (some (.ref a)) ∧ ∀ p, H p = none → p ≠ ds → D.nx σ (upd (upd (upd H p (.dK [])) p (.dK (mergeK [] [(.inr k1, .bl b1), (.inr k2, .bl b2)]))) ds (.dK (mergeK kvs (mergeK [] [(.inr k1, .bl b1), (.inr k2, .bl b2)]))))
theorem ps_mUpd {j l : Nat} {k1 c1 k2 c2 : Str} {st : Stmt} (R : RsX X ca cs) (hN : X.N = resN) (hl : X.env.scope.names.lookup ("_law_raised" : Str) = some .local) (hv : Vis X.env.scope "_law_some") (hi : i < 12) (hj : exN[j]? = some c1) (hj2 : exN[l]? = some c2) (hz : Zc (.ref (ca i)) none oe) (hf : ∃ vs, oe.data = .fields vs) (h : mUpd X.env.scope k1 c1 k2 c2 st = true) :
    PS (X.tr ((a, oe) :: pn) xe) st (tUp a k1 k2 (decide (i = j)) (decide (i = l))) := by
  unfold mUpd at h
  split at h <;> try (cases h; done)
  simp only [Bool.and_eq_true, beq_iff_eq] at h
  obtain ⟨⟨⟨rfl, rfl⟩, h3⟩, h4⟩ := h
  rename_i po ap v cp pos
  have hN4 : X.N[4]? = some ("_law_some" : Str) := by rw [hN]; rfl
  have hk := pe_mDict (a := a) (pn := pn) (xe := xe) R hN hl hi hj hj2 hz hf h4
  have hst : starred v = false := by
    unfold mDict at h4
    split at h4
    · rfl
    · cases h4
  refine (ps_expr (X := X.tr ((a, oe) :: pn) xe) (pe_bm (X := X.tr ((a, oe) :: pn) xe) (name := "update") PySem.F.plainAttrs_dict PySem.F.slot_dict_update PySem.F.type_dict_update mtd_update (pe_var (i := 4) hN4 hv) (pa_cons hk pa_nil (star1 hst)) rfl (by rw [star1 hst]; rfl) (beq_iff_eq.mpr h3) (star1 hst) rfl) rfl).imp fun D σ H ⟨ds, kvs, s4, hd, hlen, s1, q⟩ => ?_
  refine ⟨.ref ds, s4, ?_, s1, fun p np => ?_⟩
  · exact .inr (.inr (.inl ⟨rfl, .inl ⟨_, hd⟩⟩))
  · have hne : p ≠ ds := fun z => by rw [z, hd] at np; cases np
    have hml := mergeK_len [((.inr k1 : Key), V.bl (decide (i = j))), (.inr k2, .bl (decide (i = l)))] []
    have hml : (mergeK [] [((.inr k1 : Key), V.bl (decide (i = j))), (.inr k2, .bl (decide (i = l)))]).length ≤ 0 + 2 := hml
    exact ⟨ds, p, kvs, _, rfl, rfl, hne.symm, by rw [upd_ne hne.symm, upd_ne hne.symm]; exact hd, upd_same, by omega, q p np hne⟩
end
end BK
set_option Elab.async false
set_option linter.all false
set_option maxRecDepth 100000
set_option maxHeartbeats 2000000
/-! The def that tells an answer or an error's name: its end. -/
namespace BK
open PySem PySem.Spec PyProof.Rows L2
/-- a dict of flags -/
def flags (ks : List (Str × Bool)) : List (Key × V) := ks.map fun p => (.inr p.1, .bl p.2)
def named (ks : List (Str × Bool)) : List V := (ks.filter (·.2)).map fun p => .str p.1
theorem flags_val : ∀ {ks : List (Str × Bool)} {j : Nat} {p : Str × Bool}, (ks.map (·.1)).Nodup → ks[j]? = some p → valV (flags ks) (.inr p.1) = some (.bl p.2)
  | [], _, _, _, h => by simp at h
  | q :: ks, 0, p, hn, h => by
    have : q = p := by simpa using h
    subst this
    unfold flags valV
    simp
  | q :: ks, j + 1, p, hn, h => by
    obtain ⟨h1, h2⟩ := List.nodup_cons.mp (show (q.1 :: ks.map (·.1)).Nodup from hn)
    have h : ks[j]? = some p := by simpa using h
    have ih := flags_val h2 h
    have hne : q.1 ≠ p.1 := fun e => h1 (e ▸ List.mem_map.mpr ⟨p, List.mem_of_getElem? h, rfl⟩)
    unfold flags valV at ih ⊢
    rw [List.map_cons, List.find?_cons]
    have : decide ((.inr q.1 : Key) = .inr p.1) = false := decide_eq_false fun z => hne (Sum.inr.inj z)
    rw [this]
    exact ih
theorem take_more {α : Type} {l : List α} {i : Nat} {x : α} (h : l[i]? = some x) : l.take (i + 1) = l.take i ++ [x] := by
  rw [List.take_add_one, h]
  rfl
section
variable {X : Cx} {ca : Nat → Addr} {cs a : Addr} {i : Nat} {oe : Obj} {pn : List (Addr × Obj)} {xe : Value → Shared → Prop}
/-- the names whose flag is set -/
def tNm : TS := fun D σ H => ∃ ds ks, σ[4]? = some (some (.ref ds)) ∧ H ds = some (.dK (flags ks)) ∧ ks.length ≤ 100 ∧ (ks.map (·.1)).Nodup ∧ 7 ≤ σ.length ∧ ∀ L, H L = none → L ≠ ds → D.nx (σ.set 6 (some (.ref L))) (upd H L (.lst (named ks)))
theorem wipe_name {σ : L2.St} {v : Option V} : wipe ((wipe σ [5]).set 5 v) [5] = wipe σ [5] := by
  show ((σ.set 5 none).set 5 v).set 5 none = σ.set 5 none
  rw [List.set_set, List.set_set]
theorem ps_mNames {st : Stmt} (g : Gd X) (hN : X.N = resN) (hb : X.env.blockKind = .function) (hln : X.env.scope.names.lookup ("_law_names" : Str) = some .local) (hv : Vis X.env.scope "_law_some") (h : mNames X.env.scope st = true) : PS X st tNm := by
  unfold mNames at h
  split at h <;> try (cases h; done)
  simp only [Bool.and_eq_true, beq_iff_eq, Bool.or_eq_true, Bool.not_eq_true'] at h
  obtain ⟨⟨⟨⟨⟨⟨⟨⟨⟨⟨⟨⟨rfl, rfl⟩, rfl⟩, rfl⟩, rfl⟩, rfl⟩, h7⟩, h8⟩, h9⟩, h10⟩, h11⟩, h12⟩, h13⟩ := h
  rename_i px pe pt pi po pk psub scope q spos
  have hN6 : X.N[6]? = some ("_law_names" : Str) := by rw [hN]; rfl
  have hN4 : X.N[4]? = some ("_law_some" : Str) := by rw [hN]; rfl
  have hN5 : X.N[5]? = some ("_law_name" : Str) := by rw [hN]; rfl
  have nd : X.N.Nodup := by rw [hN]; decide +kernel
  have sw : swapsWith (.ListComp (.Name "_law_name" pe) [⟨.Name "_law_name" pt, .Name "_law_some" pi, [.Subscript (.Name "_law_some" po) (.Name "_law_name" pk) psub], 0⟩] scope q) (some (.Name "_law_names" px)) spos.line X.env = pure true := by
    rw [swB_eq hb rfl]
    have e : swB X.env.scope (.ListComp (.Name "_law_name" pe) [⟨.Name "_law_name" pt, .Name "_law_some" pi, [.Subscript (.Name "_law_some" po) (.Name "_law_name" pk) psub], 0⟩] scope q) "_law_names" px = (X.env.scope.names.lookup ("_law_names" : Str) == some .local && px.line == q.line && !(scope.names.any fun x => x.1 == ("_law_names" : Str) && (x.2 == NameKind.local || x.2 == NameKind.cell))) := rfl
    rw [e, hln, h7, h8]
    simp
  have fnb : ∀ (s : Shared) (H : Hp) (C : Addr) (cl : List (Str × Addr)) (fp : List Addr), (X.blk s H scope (compEnvC scope cl C X.env) fp).fn "_law_name" = true ∨ (X.blk s H scope (compEnvC scope cl C X.env) fp).env.scope.names.lookup ("_law_name" : Str) = some .local := fun s H C cl fp => h11
  refine (ps_lock (ps_setLc (i := 6) (own := [("_law_name", 5)]) (g := gName 5) g.calm nd hN6 hln sw (pi_keys (pe_var (i := 4) hN4 hv)) (blkOk_by (by rw [hN]; exact h9))
    (fun s H C cl fp => pg_name (i := 5) nd hN5 (show L2.Loc (relS scope X.env.scope) "_law_name" from locB_of h10) (fnb s H C cl fp))
    (fun s H C cl fp => pts_one (pt_val (pe_dget (show X.A.units + 1 < cLine by have := g.un; omega) (pe_var (i := 4) hN4 (show Vis (relS scope X.env.scope) "_law_some" from visB_of h12)) (pe_var (i := 5) hN5 (show Vis (relS scope X.env.scope) "_law_name" from visB_of h13)) (fun _ _ => rfl))))
    (fun s H C cl fp => pe_var (i := 5) hN5 (show Vis (relS scope X.env.scope) "_law_name" from visB_of h13)))).imp fun D σ H ⟨ds, ks, s4, hd, hl, hnd, h7l, hq⟩ => ?_
  refine ⟨ds, _, hd, trivial, fun od => ⟨.ref ds, s4, ds, od, rfl, .inl ⟨flags ks, upd_same, fun L nL => ?_⟩⟩⟩
  have hne : L ≠ ds := fun z => by rw [z, upd_same] at nL; cases nL
  have nL0 : H L = none := by rw [upd_ne hne] at nL; exact nL
  refine ⟨fun i m H' => m = ks.length - i ∧ i ≤ ks.length ∧ H' = upd (upd H ds (.frz od (.dK (flags ks)))) L (.lst (named (ks.take i))), ⟨ks.length, by omega, by omega, rfl⟩, ?_⟩
  rintro i m H' ⟨rfl, hi, rfl⟩
  have hds : (upd (upd H ds (.frz od (.dK (flags ks)))) L (.lst (named (ks.take i)))) ds = some (.frz od (.dK (flags ks))) := by rw [upd_ne hne.symm, upd_same]
  have fl : (flags ks).length = ks.length := List.length_map _
  by_cases hlt : i < ks.length
  · refine .inr ⟨⟨hds, by rw [fl]; exact hlt⟩, fun H' => H' = upd (upd H ds (.frz od (.dK (flags ks)))) L (.lst (named (ks.take (i + 1)))), fun H' e => ⟨ks.length - (i + 1), by omega, rfl, hlt, e⟩, ?_⟩
    rintro x H' ⟨rfl, k, v, e1, rfl⟩
    have hks : ks[i]? = some ks[i] := List.getElem?_eq_getElem hlt
    unfold flags at e1
    rw [List.getElem?_map, hks] at e1
    cases e1
    have hw : 7 ≤ (wipe σ [5]).length := by rw [wipe_length]; exact h7l
    have s5 : ((wipe σ [5]).set 5 (some (V.str ks[i].1)))[5]? = some (some (.str ks[i].1)) := List.getElem?_set_self (by omega)
    have s4' : ((wipe σ [5]).set 5 (some (V.str ks[i].1)))[4]? = some (some (.ref ds)) := by
      rw [List.getElem?_set_ne (by decide)]
      show (σ.set 5 none)[4]? = _
      rw [List.getElem?_set_ne (by decide)]
      exact s4
    refine ⟨wipe_name, .ref ds, s4', .str ks[i].1, s5, ds, .bl ks[i].2, rfl, .inl ⟨flags ks, .inr ks[i].1, .inr ⟨od, hds⟩, rfl, (flags_val hnd hks).symm⟩, ks[i].2, rfl, ?_⟩
    have tk := take_more hks
    cases hb2 : ks[i].2 with
    | true =>
      refine ⟨.str ks[i].1, s5, named (ks.take i), upd_same, ?_, ?_⟩
      · have h1 := List.length_filter_le (fun p : Str × Bool => p.2) (ks.take i)
        have h2 := List.length_take_le i ks
        unfold named
        rw [List.length_map, sizeLine_eq]
        omega
      · rw [upd_upd, tk]
        unfold named
        rw [List.filter_append, List.map_append, List.filter_cons_of_pos (by exact hb2)]
        rfl
    | false =>
      show upd (upd H ds (.frz od (.dK (flags ks)))) L (.lst (named (ks.take i))) = upd (upd H ds (.frz od (.dK (flags ks)))) L (.lst (named (ks.take (i + 1))))
      rw [tk]
      unfold named
      rw [List.filter_append, List.filter_cons_of_neg (by rw [hb2]; exact Bool.false_ne_true)]
      simp
  · have e : i = ks.length := by omega
    subst e
    refine .inl ⟨⟨hds, by rw [fl]; exact Nat.le_refl _⟩, hds, ?_⟩
    have eH : upd (upd (upd H ds (.frz od (.dK (flags ks)))) L (.lst (named (ks.take ks.length)))) ds (.dK (flags ks)) = upd H L (.lst (named ks)) := by
      funext b
      by_cases e1 : b = ds
      · subst e1
        rw [upd_same, upd_ne hne.symm]
        exact hd.symm
      · rw [upd_ne e1]
        by_cases e2 : b = L
        · subst e2
          rw [upd_same, upd_same, List.take_length]
        · rw [upd_ne e2, upd_ne e2, upd_ne e1]
    show D.nx (σ.set 6 (some (.ref L))) _
    rw [eH]
    exact hq L nL0 hne
/-- the name, in a tuple of its own -/
def tRs (a : Addr) : TS := fun D σ H => ∃ L x, σ[6]? = some (some (.ref L)) ∧ H L = some (.lst [.str x]) ∧ σ[1]? = some (some (.ref a)) ∧ ∀ p, H p = none → D.rt (.ref p) (upd H p (.tup [.str x]))
theorem ps_mRet {st : Stmt} (R : RsX X ca cs) (hN : X.N = resN) (hl : X.env.scope.names.lookup ("_law_raised" : Str) = some .local) (hln : X.env.scope.names.lookup ("_law_names" : Str) = some .local) (hi : i < 12) (hz : Zc (.ref (ca i)) none oe) (hf : ∃ vs, oe.data = .fields vs) (h : mRet X.env.scope st = true) : PS (X.tr ((a, oe) :: pn) xe) st (tRs a) := by
  unfold mRet at h
  split at h <;> try (cases h; done)
  simp only [Bool.and_eq_true, beq_iff_eq] at h
  obtain ⟨⟨⟨⟨⟨⟨h1, rfl⟩, h3⟩, rfl⟩, h5⟩, h6⟩, h7⟩ := h
  split at h7 <;> try (cases h7; done)
  simp only [Bool.and_eq_true, beq_iff_eq] at h7
  obtain ⟨⟨⟨k1, rfl⟩, rfl⟩, k4⟩ := h7
  obtain ⟨p, rfl, hg⟩ := isNm_of h1
  obtain ⟨p2, rfl, hg2⟩ := isNm_of k1
  have hN6 : X.N[6]? = some ("_law_names" : Str) := by rw [hN]; rfl
  have hN1 : X.N[1]? = some ("_law_raised" : Str) := by rw [hN]; rfl
  refine (ps_ret (pe_ifExp (PW.pt (pw_and (pt_cmpR op_eq (pe_callB (X := X.tr ((a, oe) :: pn) xe) call_len_seq (show Gl X "len" from hg) R.len PySem.boot_len (pa_cons (pe_var (i := 6) hN6 (.inl hln)) pa_nil rfl) (by decide) (by decide) rfl rfl) (con_int h3) (nomark _)) (pw_and1 (pt_val (pe_callB (X := X.tr ((a, oe) :: pn) xe) (call_isK (xe := xe) (R.k i hi).c hz hf) (show Gl X "isinstance" from hg2) R.isi boot_isinst (pa_cons (pe_var (i := 1) hN1 (.inl hl)) (pa_cons (pe_bltn (X := X.tr ((a, oe) :: pn) xe) (v := .ty "ValueError") (show Gl X "ValueError" from glB_of k4) R.ve (by decide +kernel) rfl (by decide) (by decide)) pa_nil rfl) rfl) (by decide) (by decide) rfl rfl)))))
    (pe_tup (pa_cons (pe_ix ix_list (pe_var (i := 6) hN6 (.inl hln)) (con_int h5) (fun _ _ => rfl)) pa_nil rfl)) (pe_tup (pa_cons (con_str h6) pa_nil rfl)))).imp fun D σ H ⟨L, x, s6, hL, s1, q⟩ => ?_
  refine ⟨.ref L, s6, L, [.str x], rfl, .inl (SqL.of hL), rfl, decide (V.int (([V.str x] : List V).length : Int) = .int 1), rfl, ?_⟩
  have : decide (V.int (([V.str x] : List V).length : Int) = .int 1) = true := decide_eq_true rfl
  rw [this]
  show if true = true then _ else _
  rw [if_pos rfl]
  refine ⟨.ref a, s1, .ty "ValueError", .type "ValueError", true, rfl, fun u e => e, (R.k i hi).ve, true, rfl, ?_⟩
  show if true = true then _ else _
  rw [if_pos rfl]
  exact ⟨.ref L, s6, L, [.str x], 0, .str x, rfl, rfl, SqL.of hL, rfl, by show 1 ≤ sizeLine; rw [sizeLine_eq]; omega, fun p np => q p np⟩
end
end BK
set_option Elab.async false
set_option linter.all false
set_option maxRecDepth 100000
set_option maxHeartbeats 2000000
/-! The def that tells an answer or an error's name: all of it. -/
namespace BK
open PySem PySem.Spec PyProof.Rows L2
theorem alUpd {H H' : Hp} {p : Addr} {o : HO} (h : Al H H') (n : H p = none) : Al H (upd H' p o) := fun b u e => by
  rw [upd_ne (ne_of_none e n)]
  exact h b u e
theorem alNone {H H' : Hp} {p : Addr} (h : Al H H') (n : H' p = none) : H p = none := by
  cases e : H p with
  | none => rfl
  | some o => rw [h p o e] at n; cases n
/-- what is made of the answer, of the error -/
def TTres (ca : Nat → Addr) : (XK → Hp → VK → Prop) → Hp → VK → Prop := fun tl H Q =>
  ∀ (H0 : Hp) (E' : XK) (Q' : VK), Al H H0 → (∀ i d H', i < 12 → d = none → (∀ p H'', Al H' H'' → H' p = none → H'' p = some (.tup [.str (resName i)]) → Q (.ref p) H'') → E' (.ref (ca i)) d H') →
    (∀ v H', (∀ p H'', Al H' H'' → H' p = none → H'' p = some (.tup [.str "returns", v]) → Q (.ref p) H'') → Q' v H') → tl E' H0 Q'
def exKs (i : Nat) : List (Str × Bool) := (List.range 12).map fun j => (resName j, decide (i = j))
theorem ex_named {i : Nat} (hi : i < 12) : named (exKs i) = [.str (resName i)] := by
  match i, hi with
  | 0, _ => rfl
  | 1, _ => rfl
  | 2, _ => rfl
  | 3, _ => rfl
  | 4, _ => rfl
  | 5, _ => rfl
  | 6, _ => rfl
  | 7, _ => rfl
  | 8, _ => rfl
  | 9, _ => rfl
  | 10, _ => rfl
  | 11, _ => rfl
theorem ex_keys (i : Nat) : ((exKs i).map (·.1)).Nodup := by
  have : (exKs i).map (·.1) = (List.range 12).map resName := by
    unfold exKs
    rw [List.map_map]
    rfl
  rw [this]
  decide +kernel
theorem ex_merge (b0 b1 b2 b3 b4 b5 b6 b7 b8 b9 b10 b11 : Bool) :
    mergeK (mergeK (mergeK (mergeK (mergeK (mergeK [] [(.inr "items", .bl b0), (.inr "action", .bl b1)]) (mergeK [] [(.inr "state", .bl b2), (.inr "plan", .bl b3)])) (mergeK [] [(.inr "guards", .bl b4), (.inr "start", .bl b5)])) (mergeK [] [(.inr "run", .bl b6), (.inr "order", .bl b7)])) (mergeK [] [(.inr "outcome", .bl b8), (.inr "text", .bl b9)])) (mergeK [] [(.inr "ended", .bl b10), (.inr "undo", .bl b11)]) =
    [(.inr "items", .bl b0), (.inr "action", .bl b1), (.inr "state", .bl b2), (.inr "plan", .bl b3), (.inr "guards", .bl b4), (.inr "start", .bl b5), (.inr "run", .bl b6), (.inr "order", .bl b7), (.inr "outcome", .bl b8), (.inr "text", .bl b9), (.inr "ended", .bl b10), (.inr "undo", .bl b11)] := by
  kernel_rfl
theorem merge2_len (kvs : List (Key × V)) (k1 k2 : Str) (b1 b2 : Bool) : (mergeK kvs (mergeK [] [(.inr k1, .bl b1), (.inr k2, .bl b2)])).length ≤ kvs.length + 2 := by
  have h1 := mergeK_len (mergeK [] [((.inr k1 : Key), V.bl b1), (.inr k2, .bl b2)]) kvs
  have h2 := mergeK_len [((.inr k1 : Key), V.bl b1), (.inr k2, .bl b2)] []
  have h3 : (mergeK [] [((.inr k1 : Key), V.bl b1), (.inr k2, .bl b2)]).length ≤ 0 + 2 := h2
  omega
section
variable {X : Cx} {ca : Nat → Addr} {cs a : Addr} {i : Nat} {oe : Obj} {pn : List (Addr × Obj)}
/-- behind the suite -/
def tEnd (a : Addr) (i : Nat) : TS := fun D σ H => σ.length = 7 ∧ σ[1]? = some (some (.ref a)) ∧ ∀ p H'', Al H H'' → H p = none → H'' p = some (.tup [.str (resName i)]) → D.rt (.ref p) H''
theorem scope_of {sc : Scope} (h : mScope sc = true) : sc.names.lookup ("_law_call" : Str) = some .local ∧ sc.names.lookup ("_law_raised" : Str) = some .local ∧ sc.names.lookup ("_law_answer" : Str) = some .local ∧ sc.names.lookup ("e" : Str) = some .local ∧ sc.names.lookup ("_law_names" : Str) = some .local ∧ L2.Loc sc "_law_some" ∧ sc.names.lookup ("StepError" : Str) = some .globalImplicit := by
  unfold mScope at h
  simp only [Bool.and_eq_true, List.all_cons, List.all_nil, beq_iff_eq] at h
  obtain ⟨⟨⟨h1, h2, h3, h4, h5, _⟩, h6⟩, h7⟩ := h
  exact ⟨h1, h2, h3, h4, h5, locB_of h6, glB_of h7⟩
theorem vis_loc {sc : Scope} {x : Str} (h : L2.Loc sc x) : Vis sc x := h.imp id .inl
theorem st_step {σ : L2.St} {H H0 : Hp} {ds : Addr} {M : List (Key × V)} {k1 k2 : Str} {b1 b2 : Bool} {p : Addr} (al : Al H0 H) (n : H0 ds = none) (hd : H ds = some (.dK M)) (np : H p = none) :
    Al H0 (upd (upd (upd H p (.dK [])) p (.dK (mergeK [] [(.inr k1, .bl b1), (.inr k2, .bl b2)]))) ds (.dK (mergeK M (mergeK [] [(.inr k1, .bl b1), (.inr k2, .bl b2)])))) := alUpd (alUpd (alUpd al (alNone al np)) (alNone al np)) n
theorem pss_rest {c d u1 u2 u3 u4 u5 e r : Stmt} (R : RsX X ca cs) (g : Gd X) (hN : X.N = resN) (hb : X.env.blockKind = .function) (hfn : ∀ x, X.fn x = true) (hs : mScope X.env.scope = true) (hi : i < 12) (hz : Zc (.ref (ca i)) none oe) (hf : ∃ vs, oe.data = .fields vs)
    (h1 : mIf c = true) (h2 : mSome X.env.scope d = true) (h3 : mUpd X.env.scope "state" "InvalidState" "plan" "InvalidPlan" u1 = true) (h4 : mUpd X.env.scope "guards" "InvalidGuards" "start" "InvalidStart" u2 = true) (h5 : mUpd X.env.scope "run" "InvalidRun" "order" "InvalidOrder" u3 = true)
    (h6 : mUpd X.env.scope "outcome" "InvalidOutcome" "text" "InvalidText" u4 = true) (h7 : mUpd X.env.scope "ended" "Ended" "undo" "NothingToUndo" u5 = true) (h8 : mNames X.env.scope e = true) (h9 : mRet X.env.scope r = true) :
    PSs (X.tr ((a, oe) :: pn) X.xe) [c, d, u1, u2, u3, u4, u5, e, r] (tEnd a i) := by
  obtain ⟨s0, s1, s2, s3, s6, s4, _⟩ := scope_of hs
  have v4 := vis_loc s4
  have hN1 : X.N[1]? = some ("_law_raised" : Str) := by rw [hN]; rfl
  have hN2 : X.N[2]? = some ("_law_answer" : Str) := by rw [hN]; rfl
  have hN4 : X.N[4]? = some ("_law_some" : Str) := by rw [hN]; rfl
  have nd : X.N.Nodup := by rw [hN]; decide +kernel
  unfold mIf at h1
  split at h1 <;> try (cases h1; done)
  simp only [Bool.and_eq_true, beq_iff_eq] at h1
  obtain ⟨⟨rfl, h1⟩, rfl⟩ := h1
  unfold mSome at h2
  split at h2 <;> try (cases h2; done)
  simp only [Bool.and_eq_true, beq_iff_eq] at h2
  obtain ⟨rfl, h2⟩ := h2
  have nsw : ∀ (dd : Expr) (p : Pos) (l : Nat), mDict X.env.scope "items" "InvalidItems" "action" "InvalidAction" dd = true → swapsWith dd (some (.Name "_law_some" p)) l X.env = pure false := fun dd p l z => by
    unfold mDict at z
    split at z
    · rfl
    · cases z
  refine (pss_cons (ps_if (X := X.tr ((a, oe) :: pn) X.xe) (pt_cmp (pc_isN (pe_var (i := 1) hN1 (.inl s1)))) (u := tNext) (t := fun _ _ _ => False) ⟨fun _ _ _ _ _ _ z => z.elim⟩ pss_nil) <|
    pss_cons (ps_set (X := X.tr ((a, oe) :: pn) X.xe) (i := 4) nd hN4 s4 (pe_mDict (j := 0) (l := 1) (a := a) (pn := pn) (xe := X.xe) R hN s1 hi rfl rfl hz hf h2) (nsw _ _ _ h2) (.inl (hfn _))) <|
    pss_cons (ps_mUpd (j := 2) (l := 3) (a := a) (pn := pn) (xe := X.xe) R hN s1 v4 hi rfl rfl hz hf h3) <|
    pss_cons (ps_mUpd (j := 4) (l := 5) (a := a) (pn := pn) (xe := X.xe) R hN s1 v4 hi rfl rfl hz hf h4) <|
    pss_cons (ps_mUpd (j := 6) (l := 7) (a := a) (pn := pn) (xe := X.xe) R hN s1 v4 hi rfl rfl hz hf h5) <|
    pss_cons (ps_mUpd (j := 8) (l := 9) (a := a) (pn := pn) (xe := X.xe) R hN s1 v4 hi rfl rfl hz hf h6) <|
    pss_cons (ps_mUpd (j := 10) (l := 11) (a := a) (pn := pn) (xe := X.xe) R hN s1 v4 hi rfl rfl hz hf h7) <|
    pss_cons (ps_mNames (X := X.tr ((a, oe) :: pn) X.xe) ⟨g.calm, g.un, g.nd⟩ hN hb s6 v4 h8) <|
    pss_one (ps_mRet (a := a) (pn := pn) (xe := X.xe) R hN s1 s6 hi hz hf h9)).imp fun D σ H ⟨hl, e1, q⟩ => ?_
  refine ⟨.ref a, e1, decide (V.ref a = .non), rfl, ?_⟩
  have : decide (V.ref a = .non) = false := decide_eq_false (by intro z; cases z)
  rw [this]
  show if false = true then _ else _
  rw [if_neg Bool.false_ne_true]
  refine ⟨e1, fun ds nds => ?_⟩
  have hl4 : (σ.set 4 (some (V.ref ds))).length = 7 := by simp [hl]
  have g4 : (σ.set 4 (some (V.ref ds)))[4]? = some (some (.ref ds)) := List.getElem?_set_self (by omega)
  have g1 : (σ.set 4 (some (V.ref ds)))[1]? = some (some (.ref a)) := by rw [List.getElem?_set_ne (by decide)]; exact e1
  have a0 : Al H (upd (upd H ds (.dK [])) ds (.dK (mergeK [] [(.inr "items", .bl (decide (i = 0))), (.inr "action", .bl (decide (i = 1)))]))) := alUpd (alUpd (Al.refl H) nds) nds
  have l0 := mergeK_len [((.inr "items" : Key), V.bl (decide (i = 0))), (.inr "action", .bl (decide (i = 1)))] []
  have l0 : (mergeK [] [((.inr "items" : Key), V.bl (decide (i = 0))), (.inr "action", .bl (decide (i = 1)))]).length ≤ 0 + 2 := l0
  have l1 := merge2_len (mergeK [] [((.inr "items" : Key), V.bl (decide (i = 0))), (.inr "action", .bl (decide (i = 1)))]) "state" "plan" (decide (i = 2)) (decide (i = 3))
  have l2 := merge2_len (mergeK (mergeK [] [((.inr "items" : Key), V.bl (decide (i = 0))), (.inr "action", .bl (decide (i = 1)))]) (mergeK [] [(.inr "state", .bl (decide (i = 2))), (.inr "plan", .bl (decide (i = 3)))])) "guards" "start" (decide (i = 4)) (decide (i = 5))
  have l3 := merge2_len (mergeK (mergeK (mergeK [] [((.inr "items" : Key), V.bl (decide (i = 0))), (.inr "action", .bl (decide (i = 1)))]) (mergeK [] [(.inr "state", .bl (decide (i = 2))), (.inr "plan", .bl (decide (i = 3)))])) (mergeK [] [(.inr "guards", .bl (decide (i = 4))), (.inr "start", .bl (decide (i = 5)))])) "run" "order" (decide (i = 6)) (decide (i = 7))
  have l4 := merge2_len (mergeK (mergeK (mergeK (mergeK [] [((.inr "items" : Key), V.bl (decide (i = 0))), (.inr "action", .bl (decide (i = 1)))]) (mergeK [] [(.inr "state", .bl (decide (i = 2))), (.inr "plan", .bl (decide (i = 3)))])) (mergeK [] [(.inr "guards", .bl (decide (i = 4))), (.inr "start", .bl (decide (i = 5)))])) (mergeK [] [(.inr "run", .bl (decide (i = 6))), (.inr "order", .bl (decide (i = 7)))])) "outcome" "text" (decide (i = 8)) (decide (i = 9))
  refine ⟨ds, _, g4, upd_same, by omega, g1, fun p1 n1 _ => ?_⟩
  have a1 := st_step (σ := σ) (k1 := "state") (k2 := "plan") (b1 := decide (i = 2)) (b2 := decide (i = 3)) a0 nds upd_same n1
  refine ⟨ds, _, g4, upd_same, by omega, g1, fun p2 n2 _ => ?_⟩
  have a2 := st_step (σ := σ) (k1 := "guards") (k2 := "start") (b1 := decide (i = 4)) (b2 := decide (i = 5)) a1 nds upd_same n2
  refine ⟨ds, _, g4, upd_same, by omega, g1, fun p3 n3 _ => ?_⟩
  have a3 := st_step (σ := σ) (k1 := "run") (k2 := "order") (b1 := decide (i = 6)) (b2 := decide (i = 7)) a2 nds upd_same n3
  refine ⟨ds, _, g4, upd_same, by omega, g1, fun p4 n4 _ => ?_⟩
  have a4 := st_step (σ := σ) (k1 := "outcome") (k2 := "text") (b1 := decide (i = 8)) (b2 := decide (i = 9)) a3 nds upd_same n4
  refine ⟨ds, _, g4, upd_same, by omega, g1, fun p5 n5 _ => ?_⟩
  have a5 := st_step (σ := σ) (k1 := "ended") (k2 := "undo") (b1 := decide (i = 10)) (b2 := decide (i = 11)) a4 nds upd_same n5
  refine ⟨ds, exKs i, g4, ?_, by unfold exKs; simp, ex_keys i, by omega, fun L nL hne => ?_⟩
  · rw [upd_same]
    rw [ex_merge]
    rfl
  · have a6 := alUpd (o := .lst (named (exKs i))) a5 (alNone a5 nL)
    refine ⟨L, resName i, List.getElem?_set_self (by omega), by rw [upd_same, ex_named hi], by rw [List.getElem?_set_ne (by decide)]; exact g1, fun p np => ?_⟩
    exact q p _ (alUpd a6 (alNone a6 np)) (alNone a6 np) upd_same
end
end BK
set_option Elab.async false
set_option linter.all false
set_option maxRecDepth 100000
set_option maxHeartbeats 2000000
/-! The def that tells an answer or an error's name: what it gives to a lambda. -/
namespace BK
open PySem PySem.Spec PyProof.Rows L2
section
variable {X : Cx} {ca : Nat → Addr} {cs : Addr}
theorem res_gives {x q : Str} {sg : Scope} {g : Addr} {cdg : Value} {bg : List Stmt} (R : RsX X ca cs) (S : FnScope resN ["_law_call"] sg) (hr : Room 2 X.A) (hc : ckRes sg bg = true) :
    LamX.GivesTo X resN x sg g cdg bg "_law_call" q (TTres ca) := by
  intro f c' s H Q tl act hco h
  unfold ckRes at hc
  split at hc <;> try (cases hc; done)
  rename_i b1 b2 b3 b4 u1 u2 u3 u4 u5 be br
  simp only [Bool.and_eq_true] at hc
  obtain ⟨⟨⟨⟨⟨⟨⟨⟨⟨⟨⟨k0, k1⟩, k2⟩, k3⟩, k4⟩, k5⟩, k6⟩, k7⟩, k8⟩, k9⟩, k10⟩, k11⟩ := hc
  have un := (hr.deeper (PyProof.Rows.envOfC x sg s.heap.objs.size g cdg)).units
  obtain ⟨s0, s1, s2, s3, s6, s4, sE⟩ := scope_of k0
  have nd : resN.Nodup := by decide +kernel
  have R' : RsX (cxOf C8.CX0 X.prog X.w X.K X.mg X.base resN x sg g cdg X.A X.stack s H C8.E0).nox ca cs := ⟨R.se, R.ex, R.ve, R.isi, R.len, R.k⟩
  have gd : Gd (cxOf C8.CX0 X.prog X.w X.K X.mg X.base resN x sg g cdg X.A X.stack s H C8.E0).nox := ⟨rfl, un, nd⟩
  have hb : (cxOf C8.CX0 X.prog X.w X.K X.mg X.base resN x sg g cdg X.A X.stack s H C8.E0).nox.env.blockKind = .function := by
    show (if sg.kind.isAnnotationScope then ScopeKind.function else sg.kind) = .function
    rw [S.kind]
    rfl
  -- the text, part by part
  unfold mBegin at k1
  split at k1 <;> try (cases k1; done)
  simp only [Bool.and_eq_true, beq_iff_eq] at k1
  obtain ⟨rfl, rfl⟩ := k1
  unfold mTry at k2
  split at k2 <;> try (cases k2; done)
  simp only [Bool.and_eq_true, beq_iff_eq] at k2
  obtain ⟨⟨⟨⟨⟨rfl, rfl⟩, rfl⟩, rfl⟩, rfl⟩, rfl⟩ := k2
  rename_i pa1 pa2 pa3 pa4 pa5 pa6 pa7 pf pcall pas pt pe' pe2 pas2 pexc ptry
  refine ⟨_, pss_cons (ps_asg (pe_tup (pa_cons pe_non (pa_cons pe_non pa_nil rfl) rfl)) (pg_tup (n := 2) rfl (pgs_cons (pg_name (i := 1) nd rfl (.inl s1) (.inl rfl)) (pgs_cons (pg_name (i := 2) nd rfl (.inl s2) (.inl rfl)) pgs_nil))) rfl (swN rfl) rfl) <|
    ps_tryRest (X := (cxOf C8.CX0 X.prog X.w X.K X.mg X.base resN x sg g cdg X.A X.stack s H C8.E0).nox) (c := .ref cs) (i := 3)
      (tb := fun W D σ H => ∃ Ech : XK, (∀ cls d σ' H', Ech cls d H' → W cls d σ' H') ∧ σ[0]? = some (some (.ref f)) ∧ H c' = some (LamX.CodeO c' q) ∧ tl Ech H fun v H1 => D.nx (σ.set 2 (some v)) H1)
      (ts := fun a cls d D σ H => ∃ v, σ[3]? = some (some v) ∧ D.nx (σ.set 1 (some v)) H)
      (tr := fun a cls d D σ H => ∃ i, i < 12 ∧ cls = .ref (ca i) ∧ d = none ∧ tEnd a i D σ H)
      (tp := fun D σ H => σ[1]? = some (some .non) ∧ ∃ v, σ[2]? = some (some v) ∧ ∀ p, H p = none → D.rt (.ref p) (upd H p (.tup [.str "returns", v])))
      rfl rfl nd rfl s3 ⟨sE, by decide, .inl R.se⟩ (fun W pn xe tk _ => ?_) (fun a oe cls d pn _ _ => ?_) (fun a oe cls d pn hz hf => ?_) ?_, ?_⟩
  · refine ⟨fun pins s' σ H' D I ⟨Ech, hW, e1, e2, e3⟩ => ?_⟩
    exact (pss_one (ps_set (i := 2) nd rfl (.inl s2) (act W pn xe Ech _ _ tk hW) rfl (.inl rfl))).run pins s' σ H' D I ⟨e1, e2, e3⟩
  · exact pss_one (ps_set (i := 1) nd rfl (.inl s1) (pe_var (i := 3) rfl (.inl s3)) rfl (.inl rfl))
  · refine ⟨fun pins s' σ H' D I ⟨i, hi, e1, e2, e3⟩ => ?_⟩
    subst e1 e2
    exact (pss_rest (X := (cxOf C8.CX0 X.prog X.w X.K X.mg X.base resN x sg g cdg X.A X.stack s H C8.E0).nox) R' gd rfl hb (fun _ => rfl) k0 hi hz hf k3 k4 k5 k6 k7 k8 k9 k10 k11).run pins s' σ H' D I e3
  · unfold mIf at k3
    split at k3 <;> try (cases k3; done)
    simp only [Bool.and_eq_true, beq_iff_eq] at k3
    obtain ⟨⟨rfl, k3⟩, rfl⟩ := k3
    refine (pss_cons (ps_if (pt_cmp (pc_isN (pe_var (i := 1) rfl (.inl s1)))) (u := fun _ _ _ => False) (pss_one (ps_ret (pe_tup (pa_cons (con_str k3) (pa_cons (pe_var (i := 2) rfl (.inl s2)) pa_nil rfl) rfl)))) ⟨fun _ _ _ _ _ _ z => z.elim⟩) (u := fun _ _ _ => False) ⟨fun _ _ _ _ _ _ z => z.elim⟩).imp fun D σ H ⟨e1, v, e2, q⟩ => ?_
    refine ⟨.non, e1, true, rfl, ?_⟩
    show if true = true then _ else _
    rw [if_pos rfl]
    exact ⟨v, e2, by show 2 ≤ sizeLine; rw [sizeLine_eq]; omega, q⟩
  · refine ⟨by show 2 ≤ sizeLine; rw [sizeLine_eq]; omega, fun p np => ⟨p, [.non, .non], rfl, .inl (.inl upd_same), rfl, .non, _, rfl, .non, _, rfl, rfl, ?_⟩⟩
    have al : Al H (upd H p (.tup [.non, .non])) := Al.new np
    let Wish : XK := fun cls d H' => ∃ i, i < 12 ∧ cls = .ref (ca i) ∧ d = none ∧ ∀ p H'', Al H' H'' → H' p = none → H'' p = some (.tup [.str (resName i)]) → Q (.ref p) H''
    refine ⟨Wish, fun cls d σ' H' ⟨i, hi, e1, e2, z⟩ => ?_, rfl, al _ _ hco, h _ Wish _ al (fun i d H' hi hd z => ⟨i, hi, rfl, hd, z⟩) fun v H' z => ⟨rfl, v, rfl, fun p np => z p _ (Al.new np) np upd_same⟩⟩
    subst e1
    refine ⟨(R.k i hi).st, fun a na hl => ⟨.ref a, List.getElem?_set_self (by rw [hl]; exact (by decide : 3 < 7)), i, hi, rfl, e2, ?_, ?_, z⟩⟩
    · rw [List.length_set, List.length_set, List.length_set, hl]
      rfl
    · rw [List.getElem?_set_ne (by decide), List.getElem?_set_self (by rw [List.length_set, hl]; exact (by decide : 1 < 7))]
end
end BK
set_option Elab.async false
set_option linter.all false
set_option maxRecDepth 100000
set_option maxHeartbeats 2000000
/-! A lambda is made and handed on: what stood before stands. -/
namespace BK
open PySem PySem.Spec PyProof.Rows L2
section
variable {X : Cx} {pins : List (Addr × Obj)} {σ : L2.St} {H : Hp} {s : Shared}
/-- what the making of a lambda leaves -/
structure Laid (X : Cx) (T : List (Addr × Str)) (H H1 : Hp) : Prop where
  ext : LamX.ExtN H H1
  non : ∀ b, H1 b = none → H b = none
  tabs : LamX.Tabs T H1
theorem lam_laid {T : List (Addr × Str)} {c P : Addr} {params : Arguments} {body : Expr} {scope : Scope} {pos : Pos} {E Q : Value → Shared → Prop} (I : Inv X pins σ H s) (TB : LamX.TabB X.base X.mg c P) (hcode : X.env.code = .ref c)
    (hm : (P, X.env.qual ++ "<lambda>") ∈ T) (hu : ∀ p ∈ T, p.1 = P → p.2 = X.env.qual ++ "<lambda>") (hT : LamX.Tabs T H) (hdef : defaultsOf params X.env = ([], [])) (hfree : ∀ y ∈ scope.names, y.2 = .free → ∃ c, X.env.cells.lookup y.1 = some c)
    (h : ∀ (f c' : Addr) (pm ctv : Value) (H1 : Hp) (s' : Shared), Inv X pins σ H1 s' → Laid X T H H1 →
      s'.heap.get? f = some (PySem.W.kla_obj "<lambda>" (X.env.qual ++ "<lambda>") params body scope (cloFrom X.env.cells scope.names []) pm c' ctv) → H1 f = none → f ∉ frs X.stack → H1 c' = some (LamX.CodeO c' (X.env.qual ++ "<lambda>")) → Q (.ref f) s') :
    wpAny (model X.prog X.w) X.A (eval (.Lambda params body scope pos) X.env) Q E s := by
  refine PySem.W.kla_eval hdef ?_
  obtain ⟨ps, tP, tOk, tAm⟩ := hT _ hm
  have atP : s.heap.get? P = some { cls := .none, data := .fields ps } := I.hok P _ tP
  have blt := TB.bm.keeps I.bk
  -- new places are no frames
  have far : ∀ f, s.heap.objs.size ≤ f → f ∉ frs X.stack := fun f big z => (List.mem_cons.mp (I.stkSub _ z)).elim
    (fun e => absurd (Nat.lt_of_lt_of_le (e ▸ I.lt) big) (Nat.lt_irrefl _)) (I.nofs big)
  cases found : codeAmong pos ps.toList with
  | some cv =>
    obtain ⟨c', rfl, codeAt⟩ := tAm pos cv found
    refine PySem.W.kla_makeFunctionHit (mg := X.mg) (c := c) (P := P) (ps := ps) (closure_ok hfree) I.ok.glob (I.mod.glob.keeps I.bk) hcode (TB.code.keeps I.bk) atP tOk found blt fun ctv h' tk grow big => ?_
    refine h _ c' _ ctv H _ (I.kept fun b o e => Heap.get?_push_of_some _ (grow b o e)) ⟨LamX.ExtN.refl H, fun _ n => n, hT⟩ (Heap.get?_push_size _ rfl) (I.hok.fresh big) (far _ big) codeAt
  | none =>
    refine PySem.W.kla_makeFunction (mg := X.mg) (c := c) (P := P) (ps := ps) (closure_ok hfree) I.ok.glob (I.mod.glob.keeps I.bk) hcode (TB.code.keeps I.bk) atP tOk found TB.gP blt fun c' ctv h' tk but ge lt rec tab => ?_
    obtain ⟨c2, oc, vs, t, e2, ho, hd, hv⟩ := rec
    cases e2
    have big : s.heap.objs.size ≤ h'.objs.size := Nat.le_trans ge (Nat.le_of_lt lt)
    have nC : H c' = none := I.hok.fresh ge
    have neP : P ≠ c' := ne_of_none tP nC
    generalize hmore : (#[rawInt pos.line, rawInt pos.col, .ref c'] : Array Value) = more at tab
    have eL : (ps ++ more).toList = ps.toList ++ [rawInt pos.line, rawInt pos.col, .ref c'] := by rw [← hmore]; simp
    have J := LamX.inv_table (t' := tk) (more := more) (h' := h'.push (PySem.W.kla_obj "<lambda>" (X.env.qual ++ "<lambda>") params body scope (cloFrom X.env.cells scope.names []) ((X.mg "__name__").getD .none) c' ctv)) I tP
      (fun b o hb e => Heap.get?_push_of_some _ (but b o hb e)) (Heap.get?_push_of_some _ tab) ge ⟨oc, vs, t, Heap.get?_push_of_some _ ho, hd, hv⟩
    have grown : LamX.ExtN H (upd (upd H P (.tbl (ps ++ more))) c' (LamX.CodeO c' (X.env.qual ++ "<lambda>"))) := fun b o e n => by
      have b1 : b ≠ c' := ne_of_none e nC
      have b2 : b ≠ P := fun z => n ps (Option.some.inj (e.symm.trans (z ▸ tP)))
      rw [upd_ne b1, upd_ne b2, e]
    have fresh : upd (upd H P (.tbl (ps ++ more))) c' (LamX.CodeO c' (X.env.qual ++ "<lambda>")) h'.objs.size = none := by
      have b1 : h'.objs.size ≠ c' := Nat.ne_of_gt lt
      have b2 : h'.objs.size ≠ P := Nat.ne_of_gt (Nat.lt_of_lt_of_le (Heap.lt_size atP) big)
      rw [upd_ne b1, upd_ne b2]
      exact I.hok.fresh big
    refine h h'.objs.size c' _ ctv _ _ J ⟨grown, fun b n => ?_, fun p hp => ?_⟩ (Heap.get?_push_size _ rfl) fresh (far _ big) upd_same
    · by_cases b1 : b = c'
      · rw [b1, upd_same] at n
        cases n
      · rw [upd_ne b1] at n
        by_cases b2 : b = P
        · rw [b2, upd_same] at n
          cases n
        · rw [upd_ne b2] at n
          exact n
    · by_cases b2 : p.1 = P
      · refine ⟨ps ++ more, by rw [b2, upd_ne neP, upd_same], by rw [eL]; exact PySem.TriplesOk_snoc _ _ _ _ tOk, fun p' cv hcv => ?_⟩
        rw [hu p hp b2]
        rw [eL] at hcv
        rcases LamX.among_app _ tOk hcv with z | z
        · exact let ⟨c0, e1, e2⟩ := tAm p' cv z; ⟨c0, e1, grown _ _ e2 LamX.codeO_ne⟩
        · exact ⟨c', z, upd_same⟩
      · obtain ⟨ps', a1, a2, a3⟩ := hT p hp
        refine ⟨ps', by rw [upd_ne (ne_of_none a1 nC), upd_ne b2]; exact a1, a2, fun p' cv hcv => ?_⟩
        exact let ⟨c0, e1, e2⟩ := a3 p' cv hcv; ⟨c0, e1, grown _ _ e2 LamX.codeO_ne⟩
end
/-- what is asked of a def's call with a lambda -/
structure LamFn (X : Cx) (Ng : List Str) (x a : Str) (g : Addr) : Prop where
  gl : X.mg x = some (.ref g)
  kp : PySem.W.keepIn X.K (.ref g) = true
  hN : Ng[0]? = some a
def tLam3 (X : Cx) (T : List (Addr × Str)) (TT : (XK → Hp → VK → Prop) → Hp → VK → Prop) (t : XK → TE) : TE := fun σ H Q => LamX.Tabs T H ∧ ∀ H1, Laid X T H H1 → TT (fun E H' Q' => t E σ H' Q') H1 Q
section
variable {X : Cx}
theorem pe_lam3 {T : List (Addr × Str)} {TT : (XK → Hp → VK → Prop) → Hp → VK → Prop} {x a : Str} {g c P : Addr} {k : Nat} {pg : Arguments} {bg : List Stmt} {sg : Scope} {dV kV doc pm cdv ct oc : Value} {an od : Option Addr} {osl : Array (Option Value)} {Ng : List Str}
    {params : Arguments} {body : Expr} {scope : Scope} {t : XK → TE} {p lpos pos : Pos} (hg : Gl X x) (F : LamFn X Ng x a g)
    (lk : X.K.lookup g = some ⟨oc, od, .func (PySem.W.fnOf x x pg bg sg dV kV doc pm an cdv ct), osl⟩) (hcg : PySem.W.codeIn X.K cdv x = true) (hb : L2.Binds X.K (PySem.W.fnOf x x pg bg sg dV kV doc pm an cdv ct) [a] []) (Sg : FnScope Ng [a] sg) (hva : Vis sg a)
    (hG : LamX.GivesTo X Ng x sg g cdv bg a (X.env.qual ++ "<lambda>") TT)
    (TB : LamX.TabB X.base X.mg c P) (hcode : X.env.code = .ref c) (hmT : (P, X.env.qual ++ "<lambda>") ∈ T) (hu : ∀ p ∈ T, p.1 = P → p.2 = X.env.qual ++ "<lambda>") (hr : Room (k + 2) X.A) (L : LamX.LamS X.env.scope scope) (hdef : defaultsOf params X.env = ([], []))
    (hbind : ∀ (q : Str) (cl : List (Str × Addr)) (pm cv ctv : Value), bindArgs (PySem.W.kla_fn "<lambda>" q params body scope cl pm cv ctv) ⟨[], []⟩ = pure [])
    (hbody : ∀ (A : Around) (outer : List PySem.Env) (s : Shared) (H : Hp) (E : XK) (f c' : Addr), Room k (A.deeper (LamX.lamEnv X scope s.heap.objs.size f c')) → PE (LamX.lamCx X A outer s H E scope f c') body (t E))
    (hdb : (x == ("__debug__" : Str)) = false) (hd : (a == ("__debug__" : Str)) = false) (hcd : (a == ("__classdict__" : Str)) = false) :
    PE X (.Call (.Name x p) [.Lambda params body scope lpos] [] pos) (tLam3 X T TT t) := by
  refine ⟨fun pins s σ H Q I ⟨hT, h⟩ => wpAny_Call_Name_kw (ld_glob I hg F.gl ?_ hdb)⟩
  refine PySem.W.callWith_K (h₀ := X.base) I.ok.mod.kin F.kp ?_ rfl rfl
  show wpAny _ _ (spliced ((false, eval (.Lambda params body scope lpos) X.env) :: backTo pos (starEach [] X.env))) _ _ s
  refine Calls.spliced_cons (lam_laid I TB hcode hmT hu hT hdef (L.has I.ok) fun f c' pm' ctv H1 s1 J laid hf hfn hfr hco => Calls.spliced_nil ⟨J.kIn, ?_⟩)
  refine wpAny_call (codeAny_mono (LamX.run_ofS (CX := C8.CX0) (E := C8.E0) (Q := Q) (N := Ng) (ps := [a]) (us := [.ref f]) (vs := [.ref f]) lk hcg Sg hr J.env0 (hb s1 [.ref f] J.kIn rfl) (.cons rfl .nil) rfl fun hr2 => ?_) fun r s2 q => ?_)
  · obtain ⟨t', run, z⟩ := hG f c' s1 H1 Q (fun E H' Q' => t E σ H' Q') (fun W pn xe E p1 p2 tk hW => LamX.pe_act (i := 0) J L hf hfn hfr (hbind _ _ _ _ _) tk hW hr2 (fun A outer s H r3 => hbody A outer s H E f c' r3) F.hN hva hd hcd) hco (h H1 laid)
    exact ⟨t', run.nox, z⟩
  · cases r with
    | error e => exact False.elim q
    | ok fl =>
      cases fl with
      | ret u => exact J.after q
      | next => exact False.elim q
      | brk => exact False.elim q
      | cont => exact False.elim q
end
end BK
set_option Elab.async false
set_option linter.all false
set_option maxRecDepth 100000
set_option maxHeartbeats 4000000
/-! The small language says the truth: what is asked around. -/
namespace BK
open PySem L2
/-- the classes of errors that defs raise -/
def bmV : List Value := [.type "ValueError", .type "Exception", .type "BaseException", .type "object"]
structure ExAt (X : Cx) (v : Value) (x : Str) : Prop where
  to : ∃ C : Addr, v = .ref C ∧ X.mg x = some (.ref C) ∧ PySem.W.keepIn X.K (.ref C) = true ∧ PySem.W.excIn X.K C bmV "ValueError.__new__" = true ∧ PySem.W.subIn X.K (.ref C) (.type "BaseException") = some true ∧ PySem.W.typeIn X.K (.ref C) = some (.type "type")
/-- how a def takes n arguments by place, and ks by name -/
structure KwAt (CX : CXT) (X : Cx) (τ : Tn) (F : List Int → Fun) (x : Str) (f : Addr) (n : Nat) (ks : List Str) : Prop where
  ok : ∃ fd ps k g gV, FnOk X.prog X.w X.K X.mg X.base CX k f fd ps (spD X.prog X.w X.K τ F) ∧ Room k X.A ∧ KBinds X.K fd ps ks g gV ∧ ∀ vs zs : List V, vs.length = n → zs.length = ks.length → gV vs zs = vs ++ zs
  mg : X.mg x = some (.ref f)
  kp : PySem.W.keepIn X.K (.ref f) = true
structure FxB (nm : Nm) (Gs : Nat → List Int → Fun) (CX : CXT) (X : Cx) (τ : Tn) (E : XK) : Prop where
  gd : Gd X
  N : X.N = nm.N
  fn : ∀ x i, nm.GN[i]? = some x → notDbg x = true → FnAt CX X τ (Gs i) x (τ.fa i)
  bi : ∀ x, x ∈ biNames → X.mg x = none
  ps : Passes CX X E
  pb : ∀ X' : Cx, X'.prog = X.prog → X'.w = X.w → Passes CX X' (fun _ _ _ => False)
  K : τ.K = X.K
  cn : ∀ x d, nm.CN.lookup x = some d → ∃ v, (∃ u, X.mg x = some u ∧ RelV v u) ∧ ∀ S H, Dr X.K S H v d
  tk : L2.Takes X (fun cls d _ H => E cls d H)
  kw : ∀ f n ns x, nm.KW.contains (f, n, ns) = true → nm.GN[f]? = some x → notDbg x = true → KwAt CX X τ (Gs f) x (τ.fa f) n ns
  ex : ∀ c x, nm.EX.contains c = true → exN[c]? = some x → ExAt X (τ.cl c) x
/-- what is asked for `_law_result(lambda: ..)` -/
structure LamAt (nm : Nm) (Gs : Nat → List Int → Fun) (CX : CXT) (X : Cx) (τ : Tn) : Prop where
  to : ∃ (g c P : Addr) (k : Nat) (st : Stmt) (fd : FuncData) (ca : Nat → Addr) (cs : Addr), L2.Fun X.K "_law_result" "_law_result" st g fd ∧ L2.Binds X.K fd ["_law_call"] [] ∧ FnScope resN ["_law_call"] (defScope st) ∧ ckRes (defScope st) (defBody st) = true ∧
    LamFn X resN "_law_result" "_law_call" g ∧ RsX X ca cs ∧ (∀ i, i < 12 → τ.cl i = .ref (ca i)) ∧ LamX.TabB X.base X.mg c P ∧ X.env.code = .ref c ∧ (P, X.env.qual ++ "<lambda>") ∈ τ.tabs ∧ (∀ p ∈ τ.tabs, p.1 = P → p.2 = X.env.qual ++ "<lambda>") ∧ Room (k + 2) X.A ∧
    ∀ (X' : Cx) (E' : XK), X'.prog = X.prog → X'.w = X.w → X'.K = X.K → X'.mg = X.mg → X'.base = X.base → X'.N = X.N → X'.calm = true → Room k X'.A → L2.Takes X' (fun cls d _ H => E' cls d H) → FxB nm.flat Gs CX X' τ E'
structure Fx (nm : Nm) (Gs : Nat → List Int → Fun) (CX : CXT) (X : Cx) (τ : Tn) (E : XK) : Prop extends FxB nm Gs CX X τ E where
  lm : ∀ sc e b, nm.rc sc e b = true → ck nm.flat sc e b = true ∧ LamAt nm Gs CX X τ
section
variable {nm : Nm} {Gs : Nat → List Int → Fun} {CX : CXT} {X : Cx} {τ : Tn} {E : XK}
theorem FxB.fx (F : FxB nm.flat Gs CX X τ E) : Fx nm.flat Gs CX X τ E := ⟨F, fun _ _ _ z => by cases z⟩
theorem takesN {X : Cx} : L2.Takes X (fun _ _ _ _ => False) := fun _ _ x => by
  obtain ⟨_, _, _, _, _, _, _, _, _, _, _, _, _, _, _, _, z⟩ := x
  exact z.elim
theorem Fx.blk (F : Fx nm Gs CX X τ E) (s : Shared) (H : Hp) (scope : Scope) (C : Addr) (cl : List (Str × Addr)) (fp : List Addr) : Fx nm Gs CX (X.blk s H scope (compEnvC scope cl C X.env) fp) τ (fun _ _ _ => False) where
  gd := ⟨F.gd.calm, F.gd.un, F.gd.nd⟩
  N := F.N
  fn := fun x i h hn => ⟨(F.fn x i h hn).ok, (F.fn x i h hn).mg, (F.fn x i h hn).kp⟩
  bi := F.bi
  ps := F.pb _ rfl rfl
  pb := F.pb
  K := F.K
  cn := F.cn
  tk := takesN
  kw := fun f n ns x h hn hd => ⟨(F.kw f n ns x h hn hd).ok, (F.kw f n ns x h hn hd).mg, (F.kw f n ns x h hn hd).kp⟩
  ex := fun c x h hn => ⟨(F.ex c x h hn).to⟩
  lm := fun sc e b h => by
    obtain ⟨h1, h2⟩ := F.lm sc e b h
    obtain ⟨g, c, P, k, st, fd, ca, cs, a1, a2, a3, a4, a5, a6, a7, a8, a9, a10, a11, a12, a13⟩ := h2.to
    exact ⟨h1, ⟨g, c, P, k, st, fd, ca, cs, a1, a2, a3, a4, ⟨a5.gl, a5.kp, a5.hN⟩, ⟨a6.se, a6.ex, a6.ve, a6.isi, a6.len, a6.k⟩, a7, a8, a9, a10, a11, a12, a13⟩⟩
end
end BK
set_option Elab.async false
set_option linter.all false
set_option maxRecDepth 100000
set_option maxHeartbeats 4000000
/-! Tuples times ints; len(set(..)); xs[::-1]. -/
namespace BK
open PySem PySem.Spec PyProof.Rows L2
theorem tuple_mul1 (b : Addr) (es : Array Value) (k : Nat) (dx : Option Addr) (so : Array (Option Value)) (y : Int) (u : Tok) (g0 : (decide (y < -(2 ^ 63)) || decide (y ≥ 2 ^ 63)) = false) (g1 : (es.isEmpty || y == 1) = true) :
    Meets (Builtin.«tuple.__mul__» ⟨[.ref b, .int y u], []⟩) (fun _ R z => z.heap.get? b = some { cls := .type "tuple", dict := dx, data := .seq es k, slots := so } ∧ R (.ok (.ret (Value.ref b))) z) :=
  .of_wp fun pr wo ar R z hz => by
    obtain ⟨hp, gn, dr, tk, os⟩ := z
    obtain ⟨hb, hz⟩ := hz
    have ix := AutoSeq1.idx_int
    (wp_walk using wpAny_loadPart' hb); refine wpAny_ite_false (decide_eq_false (by rw [g0]; exact Bool.false_ne_true)) ?_
    (wp_walk using wpAny_loadPart' hb); exact ⟨_, rfl, hz⟩
section
variable {X : Cx} {τ : Tn}
/-- once is the tuple itself -/
theorem op_one : OpR X (binaryOp .Mult) (fun x y H Q => ∃ l xs, x = .ref l ∧ y = .int 1 ∧ SqT X.K H l xs ∧ Q (.ref l) H) := by
  intro pins s σ H x y v u Q I rx ry h
  obtain ⟨l, xs, rfl, rfl, hT, q⟩ := h
  cases rx
  obtain ⟨t, rfl⟩ := ry
  obtain ⟨its, r, ⟨⟨cls, dd, data, sl⟩, ho, hc, n, hd⟩, hs⟩ := I.tuple hT
  simp only at hc hd
  subst hc hd
  refine wpAny_binaryOp_repeat_ref (T := "tuple") (U := "int") (by decide) ⟨_, ho, rfl⟩ (fun s' => typeIs_int s' 1 t) noFill_tuple_mul F.fills_int_mul F.slot_int_rmul repeat_tuple F.slot_int_index.lookup
    (call_meets F.slot_int_rmul (typeIs_int s 1 t) F.entry_int_rmul (F.args_int_rmul_2 _ _) (int_rmul_tuple 1 t l its.toArray n dd sl)
      ⟨ho, rfl, ⟨_, ho, rfl⟩, call_meets F.slot_tuple_mul ⟨_, ho, rfl⟩ F.entry_tuple_mul (F.args_tuple_mul_2 _ _) (tuple_mul1 l its.toArray n dd sl 1 t (by decide) (by rw [Bool.or_eq_true]; exact .inr rfl)) ⟨ho, ?_⟩⟩)
  exact ⟨.ref l, H, I, rfl, q⟩
theorem rep_one {α : Type} (xs : List α) : (List.replicate (1 : Int).toNat xs).flatten = xs := by
  show (List.replicate 1 xs).flatten = xs
  simp
theorem ob_mul : OpR X (binaryOp .Mult) (rB X.prog X.w X.K τ opMul) := by
  intro pins s σ H x y v u Q I rx ry ⟨S, dx, dy, r, hS, hx, hy, hg, q⟩
  unfold opMul at hg
  split at hg
  · rename_i ds k
    obtain ⟨⟨h1, h2, h3, h4⟩, hg⟩ := Option.ite_none_right_eq_some.mp hg
    cases hg
    obtain rfl := hy.i.int
    obtain ⟨p, xs, rfl, hp, hd⟩ := hx.i.tup
    by_cases hk : k = 1
    · subst hk
      rw [rep_one] at q
      exact op_one pins s σ H _ _ v u Q I rx ry ⟨p, xs, rfl, rfl, hp, q _ _ (Al.refl H) (.tup hp hd)⟩
    · exact op_repT pins s σ H _ _ v u Q I rx ry ⟨p, k, xs, rfl, rfl, hp, fun z => h1 (by rw [z] at hd; cases hd; rfl), by omega, h3, by rw [hd.length]; exact h4, fun l nl => q _ _ (Al.new nl) (Dr.newT nl (hd.rep _))⟩
  · rename_i ds k
    obtain ⟨⟨h1, h2, h3⟩, hg⟩ := Option.ite_none_right_eq_some.mp hg
    cases hg
    obtain rfl := hy.i.int
    obtain ⟨p, xs, rfl, hp, hd⟩ := hx.i.lst
    refine op_rep pins s σ H _ _ v u Q I rx ry ⟨p, k, xs, rfl, rfl, hp, by omega, by omega, ?_, fun l nl => q _ _ (Al.new nl) (Dr.newL hS nl (hd.rep _))⟩
    rw [hd.length, sizeLine_eq]
    have : ds.length * k.toNat ≤ 1000 * 1000 := Nat.mul_le_mul h3 (by omega)
    omega
  · cases hg
end

/-! ### len(set(..)) -/
section
variable {K : PySem.W.Frag} {S : Addr → Prop} {H : Hp}
theorem intL_of : ∀ {ds : List PyData} {ns : List Int} {vs : List V}, intL ds = some ns → Drs K S H vs ds → vs = ns.map V.int
  | [], _, _, e, h => by
    cases h
    cases e
    rfl
  | d :: ds, _, _, e, h => by
    cases h with
    | cons h1 h2 =>
      cases d with
      | int i =>
        unfold intL at e
        simp only [Option.map_eq_some_iff] at e
        obtain ⟨r, e, rfl⟩ := e
        cases h1
        rw [intL_of e h2]
        rfl
      | _ => cases e
theorem intTs_of : ∀ {ds : List PyData} {l : List (List Int)} {vs : List V}, intTs ds = some l → Drs K S H vs ds → ∃ ks : List (Addr × List Int), vs = ks.map (fun p => V.ref p.1) ∧ (∀ p ∈ ks, SqT K H p.1 (p.2.map V.int)) ∧ ks.map (·.2) = l
  | [], _, _, e, h => by
    cases h
    cases e
    exact ⟨[], rfl, fun _ h => (by cases h), rfl⟩
  | d :: ds, _, _, e, h => by
    cases h with
    | cons h1 h2 =>
      cases d with
      | tuple l =>
        unfold intTs at e
        split at e
        · rename_i x xs e1 e2
          cases e
          cases h1 with
          | tup ht hd =>
            obtain ⟨ks, r1, r2, r3⟩ := intTs_of e2 h2
            have := intL_of e1 hd
            subst this
            rename_i a
            refine ⟨(a, x) :: ks, by rw [r1]; rfl, fun p hp => ?_, by rw [List.map_cons, r3]⟩
            rcases List.mem_cons.mp hp with rfl | hp
            · exact ht
            · exact r2 p hp
        · cases e
      | _ => cases e
theorem mem_once (x : List Int) : ∀ l : List (List Int), x ∈ once l ↔ x ∈ l
  | [] => Iff.rfl
  | y :: l => by
    unfold once
    split
    · rw [mem_once x l, List.mem_cons]
      exact ⟨.inr, fun h => h.elim (fun e => by rw [e]; assumption) id⟩
    · rw [List.mem_cons, List.mem_cons, mem_once x l]
theorem nodup_once : ∀ l : List (List Int), (once l).Nodup
  | [] => List.nodup_nil
  | y :: l => by
    unfold once
    split
    · exact nodup_once l
    · rename_i h
      exact List.nodup_cons.mpr ⟨fun z => h ((mem_once y l).mp z), nodup_once l⟩
end
section
variable {X : Cx} {τ : Tn} {B : Addr → Prop} {E : XK} {md : Bool} {pos : Pos}
theorem len_setT : CallR X (.builtin "len") (fun vs H Q => ∃ a L, vs = [.ref a] ∧ H a = some (SetTO X.prog X.w a L) ∧ ((L.map (·.2)).Nodup → L.length < 64 → Q (.int L.length) H)) := by
  intro pins s σ H vs us Q I r ⟨a, L, e, hH, q⟩
  subst e
  rw [Vals.ref1 r]
  obtain ⟨⟨es, ep, t, ⟨o, ho, hex, hd⟩, h2, h3, h4, h5, h6, h7, h8⟩, _⟩ := I.hok a _ hH
  have hn : es.size = L.length := by
    have := congrArg List.length h2
    unfold rowsOf at this
    rw [Array.length_toList, List.length_map] at this
    exact this
  refine call_len_set ho hex hd ?_ (by omega) ⟨.int L.length, H, I.tok _, ⟨_, by rw [hn]⟩, q h4 h8⟩
  have hs := h3.sz
  have hdm := h3.dm
  rw [List.length_map] at hs
  unfold SetTable.fits SetTable.fill
  simp [hs, hdm, hn]
  omega
theorem sn_lset {e : Expr} {p p2 q : Pos} {m : Env → M D} (g : Gd X) (hg : Gl X "len") (hm : X.mg "len" = none) (hg2 : Gl X "set") (hm2 : X.mg "set" = none) (h : PE X e (tD (arOf X τ B E) false m)) (ns : starred e = false) :
    PE X (.Call (.Name "len" p) [.Call (.Name "set" p2) [e] [] q] [] pos) (tD (arOf X τ B E) md fun env => do let x ← m env; M.of (opLset x)) := by
  have h1 := pe_callTy (pos := q) (p := p2) (cr_setOfT g.calm g.un) hg2 hm2 (by decide +kernel) (sn_one h ns) (by decide) (by decide) (star1 ns) rfl
  refine (pe_callB len_setT hg hm PySem.boot_len (pa_cons h1 pa_nil rfl) (by decide) (by decide) rfl rfl).imp fun σ H Q ⟨env, s, R, t, h⟩ => ?_
  refine ⟨env, s, R, t, h.bnd.imp fun x s1 H1 e1 t1 h1 v dv => ?_⟩
  obtain ⟨d, ed, h2⟩ := h1.of
  unfold opLset at ed
  split at ed
  · rename_i ds
    obtain ⟨hl, ed⟩ := Option.ite_none_right_eq_some.mp ed
    simp only [Option.map_eq_some_iff] at ed
    obtain ⟨l, el, rfl⟩ := ed
    obtain ⟨a, xs, rfl, hx, hd⟩ := dv.i.lst
    obtain ⟨ks, rfl, k2, k3⟩ := intTs_of el hd
    refine ⟨a, ks, rfl, SqL.of hx, k2, ?_, fun b L nb s1 s2 => ?_⟩
    · have := hd.length
      rw [List.length_map] at this
      omega
    · refine ⟨b, L, rfl, upd_same, fun nd _ => ?_⟩
      have e : L.length = (once l).length := by
        rw [← List.length_map (as := L) (f := fun p => p.2)]
        refine List.Perm.length_eq ((List.perm_ext_iff_of_nodup nd (nodup_once l)).mpr fun z => ?_)
        rw [mem_once, ← k3]
        constructor
        · intro hz
          obtain ⟨p, hp, rfl⟩ := List.mem_map.mp hz
          exact List.mem_map.mpr ⟨p, s1 p hp, rfl⟩
        · intro hz
          obtain ⟨p, hp, rfl⟩ := List.mem_map.mp hz
          exact s2 p hp
      rw [e]
      exact h2 _ (Al.new nb).xt ((Al.new nb).town t1) _ (Dv.weak (d := .dat _) (.int _))
  · cases ed
end
end BK
set_option Elab.async false
set_option linter.all false
set_option maxRecDepth 100000
set_option maxHeartbeats 2000000
/-! Calls with keywords; calls of a name that holds a def. -/
namespace BK
open PySem L2
def CEs.len : CEs → Nat
  | .nil => 0
  | .cons _ r => r.len + 1
def CEs.app : CEs → CEs → CEs
  | .nil, q => q
  | .cons e r, q => .cons e (r.app q)
theorem bnd_ok {α β : Type} {x : M α} {f : α → M β} {s s' : Twn} {b : β} (h : M.bnd x f s = .ok b s') : ∃ a s1, x s = .ok a s1 ∧ f a s1 = .ok b s' := by
  unfold M.bnd at h
  cases e : x s with
  | ok a s1 => rw [e] at h; exact ⟨a, s1, rfl, h⟩
  | exc c s1 => rw [e] at h; cases h
  | stuck => rw [e] at h; cases h
theorem evs_len {G : Nat → Fun} : ∀ (es : CEs) (env : Env) (s s' : Twn) (ds : List D), evs G es env s = .ok ds s' → ds.length = es.len
  | .nil, env, s, s', ds, h => by cases h; rfl
  | .cons e r, env, s, s', ds, h => by
    have h : M.bnd (ev G true e env) (fun x => M.bnd (evs G r env) fun xs => M.ret (x :: xs)) s = .ok ds s' := h
    obtain ⟨x, s1, _, h⟩ := bnd_ok h
    obtain ⟨xs, s2, e2, h⟩ := bnd_ok h
    cases h
    have := evs_len r env s1 _ xs e2
    simp [CEs.len, this]
theorem evs_app {G : Nat → Fun} (env : Env) : ∀ (es q : CEs), evs G (es.app q) env = M.bnd (evs G es env) fun xs => M.bnd (evs G q env) fun ys => M.ret (xs ++ ys)
  | .nil, q => by
    show evs G q env = M.bnd (M.ret []) fun xs => M.bnd (evs G q env) fun ys => M.ret (xs ++ ys)
    rw [M.left]
    exact (M.right _).symm
  | .cons e r, q => by
    show (M.bnd (ev G true e env) fun x => M.bnd (evs G (r.app q) env) fun xs => M.ret (x :: xs)) = M.bnd (M.bnd (ev G true e env) fun x => M.bnd (evs G r env) fun xs => M.ret (x :: xs)) (fun xs => M.bnd (evs G q env) fun ys => M.ret (xs ++ ys))
    rw [evs_app env r q]
    simp only [M.assoc, M.left]
    rfl
section
variable {X : Cx} {τ : Tn} {B : Addr → Prop} {E : XK} {md : Bool} {pos : Pos} {Gs : Nat → List Int → Fun}
/-- each of the texts by itself -/
inductive Each (Gs : Nat → List Int → Fun) (X : Cx) (τ : Tn) (B : Addr → Prop) (E : XK) : CEs → List Expr → Prop
  | nil : Each Gs X τ B E .nil []
  | cons {c : CE} {es : CEs} {e : Expr} {l : List Expr} : PE X e (tD (arOf X τ B E) true (ev (GG Gs τ) true c)) → starred e = false → Each Gs X τ B E es l → Each Gs X τ B E (.cons c es) (e :: l)
theorem Each.len {es : CEs} {l : List Expr} (h : Each Gs X τ B E es l) : es.len = l.length := by
  induction h with
  | nil => rfl
  | cons _ _ _ ih => simp [CEs.len, ih]
theorem Each.split : ∀ {l ws : List Expr} {es : CEs}, Each Gs X τ B E es (l ++ ws) → ∃ a b, es = a.app b ∧ Each Gs X τ B E a l ∧ Each Gs X τ B E b ws
  | [], ws, es, h => ⟨.nil, es, rfl, .nil, h⟩
  | e :: l, ws, es, h => by
    cases h with
    | cons h1 h2 h3 =>
      obtain ⟨a, b, e1, e2, e3⟩ := Each.split h3
      exact ⟨.cons _ a, b, by rw [e1]; rfl, .cons h1 h2 e2, e3⟩
theorem Each.ns {es : CEs} {l : List Expr} (h : Each Gs X τ B E es l) : ∀ e ∈ l, starred e = false := by
  induction h with
  | nil => intro e z; cases z
  | cons h1 h2 _ ih =>
    intro e z
    rcases List.mem_cons.mp z with rfl | z
    · exact h2
    · exact ih e z
theorem Each.pa {es : CEs} {l : List Expr} (h : Each Gs X τ B E es l) : PA X l (tA (arOf X τ B E) (evs (GG Gs τ) es)) := by
  induction h with
  | nil => exact sn_nil
  | cons h1 h2 _ ih => exact sn_cons h1 ih (star1 h2)
theorem sn_kcons {nm : Option Str} {kp : Pos} {e : Expr} {kws : List Keyword} {m : Env → M D} {ms : Env → M (List D)} (h : PE X e (tD (arOf X τ B E) true m)) (hs : PK X kws (tA (arOf X τ B E) ms)) :
    PK X (⟨nm, e, kp⟩ :: kws) (tA (arOf X τ B E) fun env => do let x ← m env; let xs ← ms env; M.ret (x :: xs)) := by
  refine ⟨fun pos pins s σ H Q I ⟨env, tw, R, t, h0⟩ => (pk_cons h hs).run pos pins s σ H Q I ?_⟩
  refine ⟨env, tw, R, t, h0.bnd.imp fun x s1 H1 e1 t1 h1 v dv => ?_⟩
  refine ⟨env, s1, R.xt t e1, t1, h1.bnd.imp fun xs s2 H2 e2 t2 h2 vs dvs => ?_⟩
  exact h2.ret H2 (Xt.refl H2) t2 (v :: vs) (.cons (Xt.dv e2 t1 R.tS dv) dvs)
theorem Each.pk : ∀ {kws : List Keyword} {es : CEs} {ws : List Expr}, kwVals kws = some ws → Each Gs X τ B E es ws → PK X kws (tA (arOf X τ B E) (evs (GG Gs τ) es))
  | [], es, ws, hk, h => by
    cases hk
    cases h
    exact ⟨fun pos pins s σ H Q I ⟨env, tw, R, t, h0⟩ => pk_nil.run pos pins s σ H Q I (h0.ret H (Xt.refl H) t [] .nil)⟩
  | k :: kws, es, ws, hk, h => by
    obtain ⟨ka, kv, kp⟩ := k
    unfold kwVals at hk
    split at hk
    · rename_i z es' ea er
      cases hk
      cases h with
      | cons h1 h2 h3 => exact sn_kcons h1 (Each.pk er h3)
    · cases hk
theorem kw_names : ∀ {kws : List Keyword} {ks : List Str} {pos : Pos} {env : PySem.Env}, kwNames kws = some ks → (backToKw pos (keywordEach kws env)).all (·.1.isSome) = true ∧ (backToKw pos (keywordEach kws env)).filterMap (·.1) = ks ∧ (backToKw pos (keywordEach kws env)).any (·.1.isNone) = false
  | [], ks, pos, env, h => by
    cases h
    exact ⟨rfl, rfl, rfl⟩
  | k :: kws, ks, pos, env, h => by
    obtain ⟨ka, kv, kp⟩ := k
    unfold kwNames at h
    split at h
    · rename_i y ys e1 e2
      cases h
      have e1 : ka = some y := e1
      subst e1
      obtain ⟨h1, h2, h3⟩ := kw_names (pos := pos) (env := env) e2
      refine ⟨?_, ?_, ?_⟩
      · show (true && (backToKw pos (keywordEach kws env)).all (·.1.isSome)) = true
        rw [h1]
        rfl
      · show y :: (backToKw pos (keywordEach kws env)).filterMap (·.1) = y :: ys
        rw [h2]
      · show (false || (backToKw pos (keywordEach kws env)).any (·.1.isNone)) = false
        rw [h3]
        rfl
    · cases h
theorem dvs_len {a : Ar} {S : Addr → Prop} {H : Hp} {vs : List V} {ds : List D} (h : Dvs a S H vs ds) : vs.length = ds.length := by
  induction h with
  | nil => rfl
  | cons _ _ ih => simp [ih]
theorem Ok.and {α : Type} {H : Hp} {r : Res α} {Q : α → Twn → Hp → Prop} {p : α → Prop} (h : Ok τ E H r Q) (hp : ∀ a s, r = .ok a s → p a) : Ok τ E H r fun a s H' => p a ∧ Q a s H' := by
  cases r with
  | ok a s => exact fun H' e t => ⟨hp a s rfl, h H' e t⟩
  | exc c s => exact h
  | stuck => exact h.elim
theorem dvs_app {a : Ar} {S : Addr → Prop} {H : Hp} {vs zs : List V} {ds es : List D} (h : Dvs a S H vs ds) (h2 : Dvs a S H zs es) : Dvs a S H (vs ++ zs) (ds ++ es) := by
  induction h with
  | nil => exact h2
  | cons h _ ih => exact .cons h ih
theorem sn_callKw {CX : CXT} {F : List Int → Fun} {x : Str} {f : Addr} {p : Pos} {l ws : List Expr} {es : CEs} {k : Keyword} {ks : List Keyword} {ns : List Str} (FA : KwAt CX X τ F x f l.length ns) (hK : τ.K = X.K) (hx : Passes CX X E) (hg : Gl X x) (hdb : (x == ("__debug__" : Str)) = false)
    (hv : kwVals (k :: ks) = some ws) (hn : kwNames (k :: ks) = some ns) (he : Each Gs X τ B E es (l ++ ws)) : PE X (.Call (.Name x p) l (k :: ks) pos) (tD (arOf X τ B E) md fun env => do let ds ← evs (GG Gs τ) es env; F τ.scr ds) := by
  obtain ⟨a, b, rfl, ha, hb⟩ := he.split
  obtain ⟨fd, ps, kk, g, gV, F1, F2, F3, F4⟩ := FA.ok
  have nl : b.len = ns.length := by
    have key : ∀ {kws : List Keyword} {ws : List Expr} {ns : List Str}, kwVals kws = some ws → kwNames kws = some ns → ws.length = ns.length := by
      intro kws
      induction kws with
      | nil => intro ws ns h1 h2; cases h1; cases h2; rfl
      | cons k kws ih =>
        intro ws ns h1 h2
        unfold kwVals at h1
        unfold kwNames at h2
        split at h1
        · split at h2
          · cases h1
            cases h2
            simp [ih ‹_› ‹_›]
          · cases h2
        · cases h1
    rw [hb.len, key hv hn]
  obtain ⟨n1, n2, n3⟩ := kw_names (pos := pos) (env := X.env) hn
  -- what the reading asks
  have ask : ∀ σ H Q, tD (arOf X τ B E) md (fun env => do let ds ← evs (GG Gs τ) (a.app b) env; F τ.scr ds) σ H Q → tCallK (spD X.prog X.w X.K τ F) gV E (tA (arOf X τ B E) (evs (GG Gs τ) a)) (tA (arOf X τ B E) (evs (GG Gs τ) b)) σ H Q := fun σ H Q ⟨env, s, R, t, h⟩ => by
    have h : Ok τ E H (M.bnd (evs (GG Gs τ) (a.app b) env) (fun ds => F τ.scr ds) s) _ := h
    rw [evs_app] at h
    have h2 : Ok τ E H (M.bnd (evs (GG Gs τ) a env) (fun xs => M.bnd (evs (GG Gs τ) b env) fun ys => F τ.scr (xs ++ ys)) s) (fun d _ H' => ∀ v, (arOf X τ B E).Va env σ md H' v d → Q v H') := by
      have e : M.bnd (M.bnd (evs (GG Gs τ) a env) fun xs => M.bnd (evs (GG Gs τ) b env) fun ys => M.ret (xs ++ ys)) (fun ds => F τ.scr ds) = M.bnd (evs (GG Gs τ) a env) (fun xs => M.bnd (evs (GG Gs τ) b env) fun ys => F τ.scr (xs ++ ys)) := by
        simp only [M.assoc, M.left]
      rw [e] at h
      exact h
    refine ⟨env, s, R, t, ((Ok.bnd h2).and (p := fun ds => ds.length = a.len) fun ds s' e => evs_len a env s s' ds e).imp fun ds s1 H1 e1 t1 ⟨d1, h3⟩ vs dvs => ?_⟩
    refine ⟨env, s1, R.xt t e1, t1, ((Ok.bnd h3).and (p := fun ds => ds.length = b.len) fun ds s' e => evs_len b env s1 s' ds e).imp fun es s2 H2 e2 t2 ⟨d2, h4⟩ zs dzs => ?_⟩
    show spD X.prog X.w X.K τ F (gV vs zs) H2 Q E
    rw [F4 vs zs (by rw [dvs_len dvs, d1, ha.len]) (by rw [dvs_len dzs, d2, nl])]
    have R2 := (R.xt t e1).xt t1 e2
    exact ⟨τ, s2, ds ++ es, Av B env σ, rfl, rfl, rfl, hK, t2, fun a h => .inl (R.tB a h), R2.sdom, (dvs_app (Dvs.keep e2 t1 R.tS dvs) dzs).to, h4.imp fun d s3 H3 e3 t3 q v dv => q v dv.weak⟩
  cases l with
  | cons y l =>
    have ns := ha.ns
    refine (pe_callK F1 F2 hg FA.mg FA.kp F3 hx ha.pa (Each.pk hv hb) n1 n2 hdb (star1 (ns y List.mem_cons_self)) ?_).imp ask
    have z : (backTo pos (starEach (y :: l) X.env)).any (·.1) = false := stars_any ns
    rw [z, n3]
    rfl
  | nil =>
    cases ha
    refine ⟨fun pins s σ H Q I h0 => ?_⟩
    have h1 := ask σ H Q h0
    obtain ⟨env, tw, R, t, h2⟩ := h1
    have h2 : tA (arOf X τ B E) (evs (GG Gs τ) b) σ H fun zs H2 => spD X.prog X.w X.K τ F (gV [] zs) H2 Q E := h2.ret H (Xt.refl H) t [] .nil
    refine wpAny_Call_Name_kw (ld_glob I hg FA.mg ?_ hdb)
    refine PySem.W.callWith_KW0 (h₀ := X.base) I.ok.mod.kin FA.kp n1 (thn ((Each.pk hv hb).run pos pins s σ H _ I h2) fun ws s2 ⟨zs, H2, I2, rz, q2⟩ => ⟨I2.kIn, ?_⟩) (by rw [n3]; rfl)
    rw [n2]
    exact run_fnk (us := []) (vs := []) F1 F2 F3 hx I2 .nil rz q2
/-- a call of a name that holds a def -/
theorem sn_callv {CX : CXT} {i : Nat} {fs : List Nat} {x : Str} {p : Pos} {e : Expr} {l : List Expr} {es : CEs} (hf : ∀ f ∈ fs, ∃ y, FnAt CX X τ (Gs f) y (τ.fa f)) (hK : τ.K = X.K) (hx : Passes CX X E) (hN : X.N[i]? = some x) (hv : Vis X.env.scope x)
    (hdb : (x == ("__debug__" : Str)) = false) (hcd : (x == ("__classdict__" : Str)) = false) (h : PA X (e :: l) (tA (arOf X τ B E) (evs (GG Gs τ) es))) (ns : ∀ y ∈ e :: l, starred y = false) : PE X (.Call (.Name x p) (e :: l) [] pos) (tD (arOf X τ B E) md (ev (GG Gs τ) md (.callv i fs es))) := by
  refine ⟨fun pins s σ H Q I ⟨env, tw, R, t, q⟩ => ?_⟩
  have q : Ok τ E H ((match env[i]? with
    | some (some (false, .fn f)) => if f ∈ fs then (do let ds ← evs (GG Gs τ) es env; Gs f τ.scr ds) else M.non
    | _ => M.non : M D) tw) _ := q
  generalize e1 : env[i]? = o at q
  cases o with
  | none => exact q.elim
  | some o =>
  cases o with
  | none => exact q.elim
  | some od =>
  obtain ⟨o, d⟩ := od
  cases o with
  | true => exact q.elim
  | false =>
  cases d with
  | fn f =>
    have q : Ok τ E H ((if f ∈ fs then (do let ds ← evs (GG Gs τ) es env; Gs f τ.scr ds) else M.non : M D) tw) _ := q
    rcases q.iff with ⟨hc, q⟩ | ⟨_, q⟩
    · obtain ⟨v, hs, dv⟩ := R.val _ _ e1
      obtain rfl : v = .ref (τ.fa f) := dv
      obtain ⟨y, ⟨⟨fd, ps, k, F1, F2, F3⟩, _, F5⟩⟩ := hf f hc
      refine (pe_callL (i := i) (dvs := []) F1 F2 hN hv F5 F3 .nil hx h hdb hcd (star1 (ns e List.mem_cons_self)) (stars_any fun y hy => ns y (List.mem_cons_of_mem _ hy))).run pins s σ H Q I ⟨hs, env, tw, R, t, (Ok.bnd q).imp fun ds s1 H1 e1 t1 h1 vs dvs => ?_⟩
      show spD X.prog X.w X.K τ (Gs f) (vs ++ []) H1 Q E
      rw [List.append_nil]
      exact ⟨τ, s1, ds, Av B env σ, rfl, rfl, rfl, hK, t1, fun a h => .inl (R.tB a h), (R.xt t e1).sdom, dvs.to, h1.imp fun d s2 H2 e2 t2 q v dv => q v dv.weak⟩
    · exact q.elim
  | _ => exact q.elim
/-! ### an answer or an error's name -/
theorem Laid.xt {T : List (Addr × Str)} {H H1 : Hp} (l : Laid X T H H1) : Xt τ H H1 := by
  refine ⟨fun a o _ n e => l.ext a o e n, fun a n z => n (l.non a z), fun a xs r => ?_⟩
  rcases r with r | ⟨o, r⟩
  · exact .inl (l.ext _ _ r fun _ z => by cases z)
  · exact .inr ⟨o, l.ext _ _ r fun _ z => by cases z⟩
theorem Laid.town {H H1 : Hp} {s : Twn} (l : Laid X τ.tabs H H1) (t : TownR τ H s) : TownR τ H1 s := by
  obtain ⟨h1, h2, h3, h4, h5⟩ := t
  refine ⟨l.ext _ _ h1 fun _ z => (by cases z), l.ext _ _ h2 fun _ z => (by cases z), h3, l.tabs, ?_⟩
  unfold Scr at h5 ⊢
  split
  · rw [if_pos (by assumption)] at h5
    rcases h5 with r | ⟨o, r⟩
    · exact .inl (l.ext _ _ r fun _ z => by cases z)
    · exact .inr ⟨o, l.ext _ _ r fun _ z => by cases z⟩
  · rw [if_neg (by assumption)] at h5
    exact h5
theorem noArgs_of {ps : Arguments} (h : noArgs ps = true) : ps = ⟨[], [], none, [], [], none, []⟩ := by
  obtain ⟨a, b, c, d, e, f, g⟩ := ps
  unfold noArgs at h
  simp only [Bool.and_eq_true, List.isEmpty_iff, Option.isNone_iff_eq_none] at h
  obtain ⟨⟨⟨⟨⟨⟨rfl, rfl⟩, rfl⟩, rfl⟩, rfl⟩, rfl⟩, rfl⟩ := h
  rfl
theorem ckRes_scope {sc : Scope} {l : List Stmt} (h : ckRes sc l = true) : mScope sc = true := by
  unfold ckRes at h
  split at h <;> try (cases h; done)
  simp only [Bool.and_eq_true] at h
  exact h.1.1.1.1.1.1.1.1.1.1.1
theorem sn_res {nm : Nm} {CX : CXT} {c : CE} {b : Expr} {scope : Scope} {ps : Arguments} {p lp : Pos} (F : Fx nm Gs CX X τ E)
    (HB : ∀ (X' : Cx) (E' : XK), Fx nm.flat Gs CX X' τ E' → X'.env.scope = scope → PE X' b (tD (arOf X' τ B E') true (ev (GG Gs τ) true c)))
    (hg : glB X.env.scope ("_law_result" : Str) = true) (ha : noArgs ps = true) (hs : LamX.lamSB X.env.scope scope = true) (hr : nm.rc scope c b = true) :
    PE X (.Call (.Name "_law_result" p) [.Lambda ps b scope lp] [] pos) (tD (arOf X τ B E) md (ev (GG Gs τ) md (.res c))) := by
  obtain ⟨_, hl⟩ := F.lm _ _ _ hr
  obtain ⟨g, cc, P, k, st, fd, ca, cs, a1, a2, a3, a4, a5, a6, a7, a8, a9, a10, a11, a12, a13⟩ := hl.to
  obtain ⟨oc, od, kV, doc, pm, an, cdv, ct, osl, rfl, lk, hcd⟩ := a1.ex
  have e := noArgs_of ha
  subst e
  obtain ⟨s0, _⟩ := scope_of (ckRes_scope a4)
  refine (pe_lam3 (T := τ.tabs) (TT := TTres ca) (k := k) (t := fun E' => tD (arOf X τ B E') true (ev (GG Gs τ) true c)) (a := "_law_call") (Ng := resN) (show Gl X _ from glB_of hg) a5 lk hcd a2 a3 (.inl s0) (res_gives a6 a3 (a12.mono (by omega)) a4) a8 a9 a10 a11 a12 (LamX.lamS_by hs) rfl
    (fun _ _ _ _ _ => rfl) (fun A outer s H E' f c' r => ?_) (by decide) (by decide) (by decide)).imp fun σ H Q ⟨env, s, R, t, h⟩ => ?_
  · exact HB (LamX.lamCx X A outer s H E' scope f c') E' (a13 (LamX.lamCx X A outer s H E' scope f c') E' rfl rfl rfl rfl rfl rfl rfl r (L2.takes_of (X := LamX.lamCx X A outer s H E' scope f c') rfl rfl rfl rfl)).fx rfl
  · refine ⟨t.2.2.2.1, fun H1 laid H0 E' Q' al hE hQ => ?_⟩
    have x0 : Xt τ H H0 := Ke.trans laid.xt al.xt
    refine ⟨env, s, R.xt t x0, al.town (laid.town t), ?_⟩
    have h : Ok τ E H (match ev (GG Gs τ) true c env s with
      | .ok (.dat d) s' => Res.ok (tup [.str "returns", d]) s'
      | .ok _ _ => .stuck
      | .exc c s' => if c < 12 then .ok (tup [.str (resName c)]) s' else .stuck
      | .stuck => .stuck) _ := h
    cases e : ev (GG Gs τ) true c env s with
    | ok d s' =>
      rw [e] at h
      cases d with
      | dat d =>
        intro H' x' t' v dv
        refine hQ v H' fun p H'' al2 np hp => h H'' (Ke.trans x0 (Ke.trans x' al2.xt)) (al2.town t') (.ref p) (Dv.weak (d := .dat _) ?_)
        exact Dr.tup (SqT.of hp) (.cons (.str _) (.cons (al2.dr dv) .nil))
      | _ => exact h.elim
    | exc i s' =>
      rw [e] at h
      by_cases hi : i < 12
      · have h : Ok τ E H (if i < 12 then Res.ok (tup [.str (resName i)]) s' else .stuck) _ := h
        rw [if_pos hi] at h
        intro H' x' t'
        show E' (τ.cl i) none H'
        rw [a7 i hi]
        refine hE i none H' hi rfl fun p H'' al2 np hp => h H'' (Ke.trans x0 (Ke.trans x' al2.xt)) (al2.town t') (.ref p) (Dv.weak (d := .dat _) ?_)
        exact Dr.tup (SqT.of hp) (.cons (.str _) .nil)
      · have h : Ok τ E H (if i < 12 then Res.ok (tup [.str (resName i)]) s' else .stuck) _ := h
        rw [if_neg hi] at h
        exact h.elim
    | stuck =>
      rw [e] at h
      exact h.elim
end
end BK
set_option Elab.async false
set_option linter.all false
set_option maxRecDepth 100000
set_option maxHeartbeats 4000000
/-! enumerate of a tuple. -/
namespace BK
open PySem PySem.Spec PyProof.Rows L2
abbrev tupIt (l : Addr) : Obj := { cls := .type "tuple_iterator", data := .fields #[.ref l, .int 0 0] }
abbrev enumOb (it : Addr) : Obj := { cls := .type "enumerate", data := .fields #[.none, .bool false, .ref it, rawInt 0, .none, .none] }
theorem enum_new (l : Addr) (items : Array Value) (n : Nat) (dct : Option Addr) (sl : Array (Option Value)) :
    Meets (Builtin.«enumerate.__new__» ⟨[.type "enumerate", .ref l], []⟩) (fun _ R z => z.heap.get? l = some { cls := .type "tuple", dict := dct, data := .seq items n, slots := sl } ∧
      R (.ok (.ret (.ref (z.heap.push (tupIt l)).objs.size))) { z with heap := (z.heap.push (tupIt l)).push (enumOb z.heap.objs.size) }) :=
  .of_wp fun P w A R z h => by
    obtain ⟨hp, gn, dr, tk, os⟩ := z
    obtain ⟨hl, h⟩ := h
    have hsub := sub_enumerate
    have hL : Heap.IsTuple (Shared.heap ⟨hp, gn, dr, tk, os⟩) l items := ⟨_, hl, rfl, n, rfl⟩
    (wp_walk using AutoSeq1.wpAny_loadPart' hl)
    refine wpAny_stack_any fun st => wpAny_pure ?_
    split
    · rename_i c _ _ _ _ _
      cases (c == Value.type "enumerate") <;> ((wp_walk using AutoSeq1.wpAny_loadPart' hl, wpAny_pyIter_tuple hL); exact ⟨_, rfl, h⟩)
    · (wp_walk using AutoSeq1.wpAny_loadPart' hl, wpAny_pyIter_tuple hL)
      exact ⟨_, rfl, h⟩
section
variable {P : Program} {w : World} {A : Around} {E : Value → Shared → Prop} {s : Shared}
/-- enumerate(t) -/
theorem enum_call {l : Addr} {items : Array Value} {Q : Value → Shared → Prop} (hT : s.heap.IsTuple l items)
    (h : ∀ h', IsEnum h' (s.heap.objs.size + 1) s.heap.objs.size 0 .none → h'.IsTupleIter s.heap.objs.size l 0 → h'.objs.size = s.heap.objs.size + 2 → (∀ b u, s.heap.get? b = some u → h'.get? b = some u) → Q (.ref (s.heap.objs.size + 1)) { s with heap := h' }) :
    wpAny (model P w) A (call (.type "enumerate") [.ref l]) Q E s := by
  obtain ⟨⟨c, dct, dt, sl⟩, hl, hc, n, hd⟩ := hT
  simp only at hc hd
  subst hc hd
  refine callType_new F.called_enumerate (by decide) (F.typeCall_enumerate_1 _) (F.newCall_enumerate_1 _) (fun obj => F.args_object_init_2 obj _) F.entry_enumerate_new (enum_new l items n dct sl) ⟨hl, ?_⟩
  have z : (s.heap.push (tupIt l)).objs.size = s.heap.objs.size + 1 := Heap.size_push ..
  show _ ∧ _
  rw [z]
  have he : IsEnum ((s.heap.push (tupIt l)).push (enumOb s.heap.objs.size)) (s.heap.objs.size + 1) s.heap.objs.size 0 .none := by
    have q := Heap.get?_push_size (s.heap.push (tupIt l)) (o := enumOb s.heap.objs.size) rfl
    rw [z] at q
    exact q
  exact ⟨⟨_, he, rfl⟩, h _ he ⟨_, Heap.get?_push_of_some _ (Heap.get?_push_size _ rfl), rfl, rfl⟩ (by rw [Heap.size_push, z]) fun b u e => Heap.get?_push_of_some _ (Heap.get?_push_of_some _ e)⟩
/-- an enumerate, its tuple at hand or handed out -/
abbrev EnF (h : Heap) (e it : Addr) (i : Int) (f0 f1 old : Value) : Prop := h.get? e = some { cls := .type "enumerate", dict := none, data := .fields #[f0, f1, .ref it, rawInt i, .none, old], slots := #[] }
def EnS (h : Heap) (e it : Addr) (i : Int) : Prop := ∃ f0 f1 old, EnF h e it i f0 f1 old ∧ ((f0 = .none ∧ f1 = .bool false) ∨ ∃ a fb, f0 = rawInt ((a : Addr) : Nat) ∧ f1 = .bool fb ∧ (∃ u, h.get? a = some u) ∧ a ≠ e ∧ a ≠ it)
theorem enum_step {e it : Addr} {fp : List Addr} {n i : Nat} {Pv : Nat → Value → Prop} {St : Nat → Heap → Prop} {Q : Option Value → Shared → Prop} (D : Draws P w A.in1 it fp n Pv St) (he : EnS s.heap e it i) (hst : St i s.heap) (hlt : i < n) (hne : e ≠ it) (hef : e ∉ fp)
    (q : ∀ x h' tk, Pv i x → EnS h' e it ((i : Int) + 1) → St (i + 1) h' → h'.get? s.heap.objs.size = some { cls := .type "tuple", data := .seq #[.int i tk, x] } → h'.objs.size = s.heap.objs.size + 1 →
      (∀ b u, b ≠ e → b ≠ it → s.heap.get? b = some u → h'.get? b = some u) → Q (some (.ref s.heap.objs.size)) { s with heap := h', toks := tk + 1 }) : wpAny (model P w) A (pyNext (.ref e)) Q E s := by
  obtain ⟨f0, f1, old, hE, hf⟩ := he
  rcases hf with ⟨rfl, rfl⟩ | ⟨a, fb, rfl, rfl, ⟨u, hu⟩, hae, hai⟩
  · have hel := Heap.lt_size hE
    obtain ⟨_, hit⟩ := D.live _ _ hst
    have hil := Heap.lt_size hit
    exact wpAny_pyNext_enum_itemD D hE hst hlt hne hef fun x h' tk p1 p2 p3 p4 p5 p6 => q x h' tk p1 ⟨_, _, _, p2, .inr ⟨_, _, rfl, rfl, ⟨_, p4⟩, Nat.ne_of_gt hel, Nat.ne_of_gt hil⟩⟩ p3 p4 p5 p6
  · have hty : s.TypeIs (.ref e) "enumerate" := ⟨_, hE, rfl⟩
    unfold pyNext
    refine wpAny_bind (wpAny_attempt (wpAny_callSpecial?_slot (name := Str.ofString "__next__") hty F.slot_enumerate_next (wpAny_call_entry F.slot_enumerate_next hty F.entry_enumerate_next ?_ (F.args_enumerate_next_1 _))))
    obtain ⟨hp, gn, dr, tk₀, os⟩ := s
    show wpAny _ _ (field (.ref e) 2 >>= _) _ _ _
    refine wpAny_bind (wpAny_field hE rfl (x := .ref it) rfl (wpAny_bind (D.item i _ _ _ hlt hst fun x h1 tk px st1 sb1 => ?_)))
    have E1 : EnF h1 e it i (rawInt ((a : Addr) : Nat)) (.bool fb) old := (sb1.2 e hne).trans hE
    show wpAny _ _ (field (.ref e) 3 >>= _) _ _ ⟨h1, gn, dr, tk, os⟩
    refine wpAny_bind (wpAny_field E1 rfl (x := rawInt i) rfl ?_)
    show wpAny _ _ (field (.ref e) 4 >>= _) _ _ ⟨h1, gn, dr, tk, os⟩
    refine wpAny_bind (wpAny_field E1 rfl (x := .none) rfl ?_)
    show wpAny _ _ (mkInt i >>= _) _ _ ⟨h1, gn, dr, tk, os⟩
    refine wpAny_bind (wpAny_mkInt ?_)
    show wpAny _ _ (setField (.ref e) 3 (rawInt ((i : Int) + 1)) >>= _) _ _ ⟨h1, gn, dr, tk + 1, os⟩
    refine wpAny_bind (wpAny_setField_rec E1 (by simp) fun h2 e2 sb2 => ?_)
    have E2 : EnF h2 e it ((i : Int) + 1) (rawInt ((a : Addr) : Nat)) (.bool fb) old := e2
    show wpAny _ _ (setField (.ref e) 4 .none >>= _) _ _ ⟨h2, gn, dr, tk + 1, os⟩
    refine wpAny_bind (wpAny_setField_rec E2 (by simp) fun h3 e3 sb3 => ?_)
    have E3 : EnF h3 e it ((i : Int) + 1) (rawInt ((a : Addr) : Nat)) (.bool fb) old := e3
    show wpAny _ _ (newTuple [.int i tk, x] >>= _) _ _ ⟨h3, gn, dr, tk + 1, os⟩
    refine wpAny_bind (wpAny_newTuple ?_)
    have z3 : h3.objs.size = hp.objs.size := by
      have z1 : h1.objs.size = hp.objs.size := sb1.1
      have z2 : h2.objs.size = h1.objs.size := sb2.1
      have z3 : h3.objs.size = h2.objs.size := sb3.1
      rw [z3, z2, z1]
    have hel : e < hp.objs.size := Heap.lt_size hE
    have k4 : ∀ b o, b ≠ e → b ≠ it → hp.get? b = some o → (h3.push { cls := .type "tuple", data := .seq #[.int i tk, x] }).get? b = some o := fun b o n1 n2 g => Heap.get?_push_of_some _ (sb3.extBut b o n1 (sb2.extBut b o n1 (sb1.extBut b o n2 g)))
    have st4 : St (i + 1) (h3.push { cls := .type "tuple", data := .seq #[.int i tk, x] }) := D.frame _ _ _ st1 fun b hb o y => by
      have n1 : b ≠ e := fun z => hef (z ▸ hb)
      exact Heap.get?_push_of_some _ (sb3.extBut b o n1 (sb2.extBut b o n1 y))
    have E4 : EnF (h3.push { cls := .type "tuple", data := .seq #[.int i tk, x] }) e it ((i : Int) + 1) (rawInt ((a : Addr) : Nat)) (.bool fb) old := Heap.get?_push_of_some _ E3
    have t4 : (h3.push { cls := .type "tuple", data := .seq #[.int i tk, x] }).get? hp.objs.size = some { cls := .type "tuple", data := .seq #[.int i tk, x] } := by
      rw [← z3]
      exact Heap.get?_push_size _ rfl
    have z4 : (h3.push { cls := .type "tuple", data := .seq #[.int i tk, x] }).objs.size = hp.objs.size + 1 := by rw [Heap.size_push, z3]
    show wpAny _ _ (Builtin.SmallTypes.ownedTupleIsFree (.ref e) >>= _) _ _ ⟨_, gn, dr, tk + 1, os⟩
    rw [z3]
    generalize h3.push { cls := .type "tuple", data := .seq #[.int i tk, x] } = h4 at k4 st4 E4 t4 z4 ⊢
    refine wpAny_bind ?_
    unfold Builtin.SmallTypes.ownedTupleIsFree
    refine wpAny_bind (wpAny_field E4 rfl (x := rawInt ((a : Addr) : Nat)) rfl ?_)
    show wpAny _ _ (loadIfAlive (((a : Addr) : Nat) : Int).toNat >>= _) _ _ _
    rw [Int.toNat_natCast]
    refine wpAny_bind (W.kdx_alive (k4 a u hae hai hu) ?_)
    simp only [Option.isNone_some, Bool.false_eq_true, if_false]
    refine wpAny_bind (wpAny_field E4 rfl (x := .bool fb) rfl ?_)
    cases fb with
    | true =>
      rw [if_neg (by decide)]
      refine wpAny_pure ?_
      simp only [Bool.false_eq_true, if_false]
      exact wpAny_pure ⟨_, rfl, wpAny_pure (q x h4 tk px ⟨_, _, _, E4, .inr ⟨_, _, rfl, rfl, ⟨u, k4 a u hae hai hu⟩, hae, hai⟩⟩ st4 t4 z4 k4)⟩
    | false =>
      rw [if_pos (by decide)]
      refine wpAny_bind (wpAny_setField_rec E4 (by simp) fun h5 e5 sb5 => ?_)
      have E5 : EnF h5 e it ((i : Int) + 1) (rawInt ((a : Addr) : Nat)) (.bool true) old := e5
      refine wpAny_pure ?_
      simp only [Bool.false_eq_true, if_false]
      refine wpAny_pure ⟨_, rfl, wpAny_pure (q x h5 tk px ⟨_, _, _, E5, .inr ⟨_, _, rfl, rfl, ⟨u, sb5.extBut a u hae (k4 a u hae hai hu)⟩, hae, hai⟩⟩ (D.frame _ _ _ st4 fun b hb o y => sb5.extBut b o (fun z => hef (z ▸ hb)) y) (sb5.extBut _ _ (Nat.ne_of_gt hel) t4) (by
        have : h5.objs.size = h4.objs.size := sb5.1
        rw [this, z4]) fun b o n1 n2 g => sb5.extBut b o n1 (k4 b o n1 n2 g))⟩
theorem enum_done {e it : Addr} {fp : List Addr} {n : Nat} {i : Int} {Pv : Nat → Value → Prop} {St : Nat → Heap → Prop} {Q : Option Value → Shared → Prop} (D : Draws P w A.in1 it fp n Pv St) (he : EnS s.heap e it i) (hst : St n s.heap)
    (q : ∀ h', Heap.ExtBut it s.heap h' → Q none { s with heap := h' }) : wpAny (model P w) A (pyNext (.ref e)) Q E s := by
  obtain ⟨f0, f1, old, hE, _⟩ := he
  have hty : s.TypeIs (.ref e) "enumerate" := ⟨_, hE, rfl⟩
  unfold pyNext
  refine wpAny_bind (wpAny_attempt (wpAny_callSpecial?_slot (name := Str.ofString "__next__") hty F.slot_enumerate_next (wpAny_call_entry F.slot_enumerate_next hty F.entry_enumerate_next ?_ (F.args_enumerate_next_1 _))))
  show wpAny _ _ (field (.ref e) 2 >>= _) _ _ _
  refine wpAny_bind (wpAny_field hE rfl (x := .ref it) rfl (wpAny_bind (D.done _ _ _ hst fun h' x k hx => ?_)))
  obtain ⟨o, ho, hc⟩ := hx
  exact wpAny_bind (wpAny_isInstance (T := "StopIteration") (b := true) ⟨o, ho, hc⟩ isSubtype_stop (wpAny_pure (q _ k)))
theorem en_nolen : typeLookup (.type "enumerate") "__len__" = pure none := by rw [typeLookup_type, builtinLookup_eq_fast]; kernel_rfl
theorem en_nohint : typeLookup (.type "enumerate") "__length_hint__" = pure none := by rw [typeLookup_type, builtinLookup_eq_fast]; kernel_rfl
end
end BK
set_option Elab.async false
set_option linter.all false
set_option maxRecDepth 100000
set_option maxHeartbeats 4000000
/-! list(enumerate(t)); for .. in enumerate(t). -/
namespace BK
open PySem PySem.Spec PyProof.Rows L2
section
variable {P : Program} {w : World} {A : Around} {E : Value → Shared → Prop} {s : Shared}
/-- the new pairs, at as, above lo -/
structure EnG (items : Array Value) (lo : Addr) (h : Heap) (as : List Addr) : Prop where
  rise : as.Pairwise (· < ·)
  above : ∀ a ∈ as, lo ≤ a
  pair : ∀ (j : Nat) (a : Addr), as[j]? = some a → ∃ tk x, items[j]? = some x ∧ h.get? a = some { cls := .type "tuple", data := .seq #[.int (j : Int) tk, x] }
theorem enl_loop {S e it l : Addr} {items : Array Value} {g : Heap} {lo : Addr} {St : Nat → Heap → Prop} {R : Result → Shared → Prop} (D : Draws P w A.in1.in1 it [it, l] items.size (fun i v => items[i]? = some v) St) (hn : items.size ≤ sizeLine) (res : Value) (hSe : S ≠ e) (hSi : S ≠ it) (hSl : S ≠ l) (hei : e ≠ it) (hel : e ≠ l)
    (lS : S < lo) (le : e < lo) (li : it < lo) (glo : ∀ b u, g.get? b = some u → b < lo)
    (q : ∀ h' tk (acc : Array Value) c as, (∀ b u, b ≠ S → b ≠ e → b ≠ it → g.get? b = some u → h'.get? b = some u) → h'.get? S = some { cls := .type "list", dict := none, data := .seq acc c, slots := #[] } → as.length = items.size → EnG items lo h' as →
      acc.toList = as.map Value.ref → R (.ok (.ret res)) { s with heap := h', toks := tk }) :
    ∀ (m i : Nat) (h : Heap) (tk c : Nat) (acc : Array Value) (as : List Addr), items.size = i + m → EnS h e it i → St i h → lo ≤ h.objs.size → (∀ b u, b ≠ S → b ≠ e → b ≠ it → g.get? b = some u → h.get? b = some u) →
      h.get? S = some { cls := .type "list", dict := none, data := .seq acc c, slots := #[] } → acc.toList = as.map Value.ref → as.length = i → EnG items lo h as → (∀ a ∈ as, a < h.objs.size) →
      codeAny (model P w) A (.builtin "list.extend.loop" ⟨[.ref S, .ref e, res], []⟩) R { s with heap := h, toks := tk } := by
  intro m
  induction m with
  | zero =>
    intro i h tk c acc as hm hE hst hlo hk hS hacc hl G hlt
    refine codeAny_builtin PySem.F.entry_extend_loop ?_
    rw [Around.under_plainId PySem.F.plain_extend_loop _]
    show wpAny _ A.in1 (pyNext (.ref e) >>= _) _ _ _
    have hin : items.size = i := by omega
    refine wpAny_bind (enum_done (s := { s with heap := h, toks := tk }) (A := A.in1) D hE (by rw [hin]; exact hst) fun h' he => ?_)
    refine wpAny_pure (q h' tk acc c as (fun b u n1 n2 n3 z => he b u n3 (hk b u n1 n2 n3 z)) (he S _ hSi hS) (by omega) ⟨G.rise, G.above, fun j a hj => ?_⟩ hacc)
    obtain ⟨t, x, e1, e2⟩ := G.pair j a hj
    have := G.above a (List.mem_of_getElem? hj)
    exact ⟨t, x, e1, he a _ (Nat.ne_of_gt (Nat.lt_of_lt_of_le li this)) e2⟩
  | succ m ih =>
    intro i h tk c acc as hm hE hst hlo hk hS hacc hl G hlt
    have hsz : acc.size = i := by rw [← Array.length_toList, hacc, List.length_map, hl]
    refine codeAny_builtin PySem.F.entry_extend_loop ?_
    rw [Around.under_plainId PySem.F.plain_extend_loop _]
    show wpAny _ A.in1 (pyNext (.ref e) >>= _) _ _ _
    refine wpAny_bind (enum_step (s := { s with heap := h, toks := tk }) (A := A.in1) D hE hst (by omega) hei (fun z => ?_) fun x h' tk' px hE' hst' ht hz hkp => ?_)
    · simp only [List.mem_cons, List.not_mem_nil, or_false] at z
      exact z.elim hei hel
    dsimp only at ht hz hkp ⊢
    have hS' := hkp S _ hSe hSi hS
    have up : ∀ b u, b ≠ S → h'.get? b = some u → (h'.update S (Obj.mapSeq (·.push (Value.ref h.objs.size)))).get? b = some u := fun b u n z => (Heap.get?_update_other _ _ (Ne.symm n)).trans z
    have nS : (h.objs.size : Addr) ≠ S := Nat.ne_of_gt (Heap.lt_size hS)
    show wpAny _ A.in1 (updateSeq S (·.push (Value.ref h.objs.size)) >>= _) _ _ _
    refine wpAny_bind (wpAny_updateSeq hS' rfl (wpAny_pure ⟨plainId_quiet PySem.F.plain_extend_loop _, ih (i + 1) _ (tk' + 1) _ (acc.push (Value.ref h.objs.size)) (as ++ [h.objs.size]) (by omega) ?_ (D.frame _ _ _ hst' fun b hb u z => up b u ?_ z) ?_
      (fun b u n1 n2 n3 z => up b u n1 (hkp b u n2 n3 (hk b u n1 n2 n3 z))) (Heap.get?_update_self _ hS' rfl) (by rw [Array.toList_push, hacc, List.map_append]; rfl) (by rw [List.length_append, hl]; rfl) ⟨?_, ?_, ?_⟩ ?_⟩) (by rw [hsz]; omega) (by show (acc.push (Value.ref h.objs.size)).size ≤ sizeLine + 1; rw [Array.size_push, hsz]; omega))
    · obtain ⟨f0, f1, old, E1, E2⟩ := hE'
      refine ⟨f0, f1, old, up e _ (Ne.symm hSe) E1, E2.imp id fun ⟨a, fb, a1, a2, ⟨u, a3⟩, a4⟩ => ⟨a, fb, a1, a2, ?_, a4⟩⟩
      by_cases hb : a = S
      · rw [hb]; exact ⟨_, Heap.get?_update_self _ hS' rfl⟩
      · exact ⟨u, up a u hb a3⟩
    · simp only [List.mem_cons, List.not_mem_nil, or_false] at hb
      rcases hb with rfl | rfl
      · exact Ne.symm hSi
      · exact Ne.symm hSl
    · rw [Heap.size_update, hz]; exact Nat.le_succ_of_le hlo
    · refine List.pairwise_append.mpr ⟨G.rise, List.pairwise_singleton _ _, fun a ha b hb => ?_⟩
      rw [List.mem_singleton.mp hb]
      exact hlt a ha
    · intro a ha
      rcases List.mem_append.mp ha with ha | ha
      · exact G.above a ha
      · rw [List.mem_singleton.mp ha]; exact hlo
    · intro j b hj
      rcases Nat.lt_trichotomy j as.length with z | z | z
      · rw [List.getElem?_append_left z] at hj
        obtain ⟨t, y, e1, e2⟩ := G.pair j b hj
        have hb := G.above b (List.mem_of_getElem? hj)
        exact ⟨t, y, e1, up b _ (Nat.ne_of_gt (Nat.lt_of_lt_of_le lS hb)) (hkp b _ (Nat.ne_of_gt (Nat.lt_of_lt_of_le le hb)) (Nat.ne_of_gt (Nat.lt_of_lt_of_le li hb)) e2)⟩
      · subst z
        have hb : h.objs.size = b := by simpa using hj
        subst hb
        exact ⟨tk', x, by rw [hl]; exact px, by rw [hl]; exact up _ _ nS ht⟩
      · rw [List.getElem?_eq_none (by rw [List.length_append, List.length_singleton]; omega)] at hj
        cases hj
    · intro a ha
      rw [Heap.size_update, hz]
      rcases List.mem_append.mp ha with ha | ha
      · exact Nat.lt_succ_of_lt (hlt a ha)
      · rw [List.mem_singleton.mp ha]; exact Nat.lt_succ_self _
/-- list(e), e an enumerate of a tuple that was just made -/
theorem enl_call {e it l : Addr} {items : Array Value} {Q : Value → Shared → Prop} (hh : A.handled = none) (hE : IsEnum s.heap e it 0 .none) (hi : s.heap.IsTupleIter it l 0) (hT : s.heap.IsTuple l items) (hei : e ≠ it) (hel : e ≠ l) (hil : l ≠ it) (hn : items.size ≤ sizeLine)
    (q : ∀ h' tk (acc : Array Value) c as, (∀ b u, b ≠ e → b ≠ it → s.heap.get? b = some u → h'.get? b = some u) → h'.get? s.heap.objs.size = some { cls := .type "list", dict := none, data := .seq acc c, slots := #[] } → as.length = items.size → EnG items (s.heap.objs.size + 1) h' as →
      acc.toList = as.map Value.ref → Q (.ref s.heap.objs.size) { s with heap := h', toks := tk }) : wpAny (model P w) A (call (.type "list") [.ref e]) Q E s := by
  refine callType_codes (Q₁ := fun obj s₁ => obj = .ref s.heap.objs.size ∧ s₁ = { s with heap := s.heap.push { cls := .type "list", data := .seq #[] } }) F.called_list (F.typeCall_list_1 _) F.entry_list_init (code_list_new _ ⟨rfl, rfl⟩) fun obj s₁ h₁ => ?_
  obtain ⟨rfl, rfl⟩ := h₁
  have hS : (s.heap.push { cls := .type "list", data := .seq #[] }).get? s.heap.objs.size = some { cls := .type "list", data := .seq #[] } := Heap.get?_push_size _ rfl
  have le : e < s.heap.objs.size := Heap.lt_size hE
  have li : it < s.heap.objs.size := by obtain ⟨_, z, _⟩ := hi; exact Heap.lt_size z
  have ll : l < s.heap.objs.size := by obtain ⟨_, z, _⟩ := hT; exact Heap.lt_size z
  refine ⟨⟨_, hS, rfl⟩, F.args_list_init_2 _ _, ?_⟩
  show wpAny _ A.in1.in1 (do let old ← Builtin.List.listItems (.ref s.heap.objs.size); Builtin.List.listUpdate (.ref s.heap.objs.size) (fun _ => #[]); letGo old.toList.reverse; Builtin.List.listExtendWith (.ref s.heap.objs.size) (.ref e) .none) _ _ _
  refine wpAny_bind ?_
  unfold Builtin.List.listItems
  refine wpAny_bind (wpAny_seqItems hS rfl (wpAny_pure ?_))
  show wpAny _ A.in1.in1 (updateSeq s.heap.objs.size (fun _ => #[]) >>= fun _ => letGo (#[] : Array Value).toList.reverse >>= fun _ => Builtin.List.listExtendWith (.ref s.heap.objs.size) (.ref e) .none) _ _ _
  refine wpAny_bind (wpAny_updateSeq hS rfl ?_)
  have hS2 := Heap.get?_update_self (Obj.mapSeq (fun _ => (#[] : Array Value))) hS rfl
  have k2 : ∀ b u, b ≠ s.heap.objs.size → (s.heap.push { cls := .type "list", data := .seq #[] }).get? b = some u → ((s.heap.push { cls := .type "list", data := .seq #[] }).update s.heap.objs.size (Obj.mapSeq (fun _ => (#[] : Array Value)))).get? b = some u := fun b u n z => (Heap.get?_update_other _ _ (Ne.symm n)).trans z
  have z2 : ((s.heap.push { cls := .type "list", data := .seq #[] }).update s.heap.objs.size (Obj.mapSeq (fun _ => (#[] : Array Value)))).objs.size = s.heap.objs.size + 1 := by rw [Heap.size_update, Heap.size_push]
  refine wpAny_bind (wpAny_letGo ?_)
  have k3 : ∀ b u, s.heap.get? b = some u → ((s.heap.push { cls := .type "list", data := .seq #[] }).update s.heap.objs.size (Obj.mapSeq (fun _ => (#[] : Array Value)))).get? b = some u := fun b u z => k2 b u (Nat.ne_of_lt (Heap.lt_size z)) (Heap.get?_push_of_some _ z)
  generalize (s.heap.push { cls := .type "list", data := .seq #[] }).update s.heap.objs.size (Obj.mapSeq (fun _ => (#[] : Array Value))) = h2 at hS2 z2 k3 ⊢
  have eE : h2.get? e = _ := k3 e _ hE
  unfold Builtin.List.listExtendWith
  refine wpAny_bind (wpAny_typeOf (T := "enumerate") ⟨_, eE, rfl⟩ ?_)
  have n1 : Builtin.List.listSameRef (.ref s.heap.objs.size) (.ref e) = false := by
    have : (s.heap.objs.size : Addr) ≠ e := Nat.ne_of_gt le
    simp [Builtin.List.listSameRef, this]
  have n2 : (Value.type "enumerate" == Value.type "list") = false := by decide
  have n3 : (Value.type "enumerate" == Value.type "tuple") = false := by decide
  simp only [n1, n2, n3, Bool.or_false, Bool.false_eq_true, if_false]
  refine wpAny_bind (wpAny_pyIter_enum eE ?_)
  refine wpAny_bind (wpAny_holding ?_)
  unfold Builtin.List.listLengthHint
  refine wpAny_bind (wpAny_specialOf (T := "enumerate") ⟨_, eE, rfl⟩ en_nolen ?_)
  show wpAny _ A.in1.in1 (specialOf (Value.ref e) (Str.ofString "__length_hint__") >>= _) _ _ _
  refine wpAny_bind (wpAny_specialOf (T := "enumerate") ⟨_, eE, rfl⟩ en_nohint ?_)
  refine wpAny_pure ?_
  show wpAny _ A.in1.in1 (rule "list.extend.makes-room" >>= fun _ => Builtin.List.listTouch (.ref s.heap.objs.size) >>= fun _ => again (.builtin "list.extend.loop" ⟨[.ref s.heap.objs.size, .ref e, .none], []⟩)) _ _ _
  refine wpAny_bind (wpAny_rule (wpAny_bind ?_))
  show wpAny _ A.in1.in1 (updateSeq s.heap.objs.size (·.push .none) >>= fun _ => updateSeq s.heap.objs.size (·.pop)) _ _ _
  refine wpAny_bind (wpAny_updateSeq hS2 rfl ?_)
  have hS3 := Heap.get?_update_self (Obj.mapSeq (·.push Value.none)) hS2 rfl
  refine wpAny_updateSeq (hz := by seq_fits) hS3 rfl ?_
  have hS4 := Heap.get?_update_self (Obj.mapSeq (·.pop)) hS3 rfl
  have k4 : ∀ b u, b ≠ s.heap.objs.size → h2.get? b = some u → ((h2.update s.heap.objs.size (Obj.mapSeq (·.push Value.none))).update s.heap.objs.size (Obj.mapSeq (·.pop))).get? b = some u := fun b u n z => (Heap.get?_update_other _ _ (Ne.symm n)).trans ((Heap.get?_update_other _ _ (Ne.symm n)).trans z)
  have z4 : ((h2.update s.heap.objs.size (Obj.mapSeq (·.push Value.none))).update s.heap.objs.size (Obj.mapSeq (·.pop))).objs.size = s.heap.objs.size + 1 := by rw [Heap.size_update, Heap.size_update, z2]
  generalize (h2.update s.heap.objs.size (Obj.mapSeq (·.push Value.none))).update s.heap.objs.size (Obj.mapSeq (·.pop)) = h4 at hS4 k4 z4 ⊢
  have k5 : ∀ b u, s.heap.get? b = some u → h4.get? b = some u := fun b u z => k4 b u (Nat.ne_of_lt (Heap.lt_size z)) (k3 b u z)
  refine wpAny_pure ⟨plainId_quiet PySem.F.plain_extend_loop _, ?_⟩
  refine enl_loop (g := s.heap) (lo := s.heap.objs.size + 1) (Draws.tuple (A := A.in1.in1.in1) (by simp [hh]) it l hil items) hn .none (Nat.ne_of_gt le) (Nat.ne_of_gt li) (Nat.ne_of_gt ll) hei hel (Nat.lt_succ_self _) (Nat.lt_succ_of_lt le) (Nat.lt_succ_of_lt li) (fun b u z => Nat.lt_succ_of_lt (Heap.lt_size z))
    (fun h' tk acc c as a1 a2 a3 a4 a5 => ⟨rfl, q h' tk acc c as (fun b u n1 n2 z => a1 b u (Nat.ne_of_lt (Heap.lt_size z)) n1 n2 z) a2 a3 a4 a5⟩)
    items.size 0 h4 _ _ #[] [] (Nat.zero_add _).symm ⟨_, _, _, k5 e _ hE, .inl ⟨rfl, rfl⟩⟩ ⟨hi.at fun o z => k5 it o z, hT.at fun o z => k5 l o z⟩ (by rw [z4]; exact Nat.le_refl _) (fun b u _ _ _ z => k5 b u z) hS4 rfl rfl ⟨List.Pairwise.nil, fun _ z => (by cases z), fun j a z => (by simp at z)⟩ fun _ z => (by cases z)
end
end BK
set_option Elab.async false
set_option linter.all false
set_option maxRecDepth 100000
set_option maxHeartbeats 4000000
/-! Sets whose items are tuples of any depth: the table, the search, one more item. -/
namespace BK
open PySem PySem.Spec PyProof.Rows L2

section
variable {P : Program} {w : World} {A : Around} {E : Value → Shared → Prop} {s : Shared}
/-- b is the tuple that is the key k -/
abbrev Kt (P : Program) (w : World) (h : Heap) (k : NestedKey) (b : Addr) : Prop := (nestedKind P w).is h k b
/-- its hash -/
abbrev hs (w : World) (k : NestedKey) : Int := NestedKey.hash w k

/-! ### what is asked of the items -/
mutual
theorem cls_key : ∀ (k : NestedKey) (v : Value) (n : Nat) (Q : Bool → Shared → Prop), NestedIs s.heap k v → k.depth ≤ n → Q false s → wpAny (model P w) A (ofAClassStatement n v) Q E s
  | .none, _, n, Q, x, _, q => by cases x; cases n <;> exact wpAny_pure q
  | .num i, _, n, Q, x, _, q => by cases x <;> cases n <;> exact wpAny_pure q
  | .text y, _, n, Q, x, _, q => by cases x; cases n <;> exact wpAny_pure q
  | .tup ks, _, n, Q, x, hn, q => by
    cases x with
    | @tup b ob vs m _ hb hc hv hks =>
      simp only [NestedKey.depth] at hn
      cases n with
      | zero => omega
      | succ n =>
        unfold ofAClassStatement
        refine wpAny_bind (wpAny_typeOf (T := "tuple") ⟨ob, hb, hc⟩ ?_)
        dsimp only
        rw [if_pos (by decide : (("tuple" : String) == "tuple") = true)]
        refine wpAny_bind (wpAny_pure ?_)
        rw [if_neg (by decide : ¬ (!true) = true)]
        try refine wpAny_bind (wpAny_pure ?_)
        refine wpAny_bind (wpAny_seqItems hb hv ?_)
        dsimp only
        refine wpAny_bind ?_
        rw [← Array.forIn_toList]
        refine cls_keys ks vs.toList n _ hks (by omega) ?_
        exact wpAny_pure q
theorem cls_keys : ∀ (ks : List NestedKey) (vs : List Value) (n : Nat) (Q : Option Bool × Unit → Shared → Prop), NestedAll s.heap ks vs → NestedKey.depthAll ks ≤ n → Q (none, ()) s →
    wpAny (model P w) A (forIn vs ((none, ()) : Option Bool × Unit) fun y r => do if (← ofAClassStatement n y) = true then pure (ForInStep.done (some true, ())) else pure (ForInStep.yield (none, ()))) Q E s
  | [], _, n, Q, x, _, q => by cases x; exact wpAny_pure q
  | k :: ks, _, n, Q, x, hn, q => by
    cases x with
    | cons x1 x2 =>
      simp only [NestedKey.depthAll] at hn
      rw [List.forIn_cons]
      refine wpAny_bind (wpAny_bind (cls_key k _ n _ x1 (by omega) ?_))
      rw [if_neg Bool.false_ne_true]
      exact wpAny_pure (cls_keys ks _ n Q x2 (by omega) q)
end
mutual
theorem byv_key : ∀ (k : NestedKey) (v : Value) (n : Nat) (Q : Bool → Shared → Prop), NestedIs s.heap k v → (∀ b, Q b s) → wpAny (model P w) A (hashByValue n v) Q E s
  | .none, _, n, Q, x, q => by cases x; cases n <;> exact wpAny_pure (q _)
  | .num i, _, n, Q, x, q => by cases x <;> cases n <;> exact wpAny_pure (q _)
  | .text y, _, n, Q, x, q => by cases x; cases n <;> exact wpAny_pure (q _)
  | .tup ks, _, n, Q, x, q => by
    cases x with
    | @tup b ob vs m _ hb hc hv hks =>
      cases n with
      | zero => exact wpAny_pure (q _)
      | succ n =>
        unfold hashByValue
        refine wpAny_bind (wpAny_specialOf (T := "tuple") ⟨ob, hb, hc⟩ F.slot_tuple_hash.lookup ?_)
        dsimp only
        refine wpAny_bind (wpAny_seqItems hb hv ?_)
        dsimp only [Option.getD]
        refine wpAny_bind ?_
        rw [← Array.forIn_toList]
        refine byv_keys ks vs.toList n _ hks fun r => ?_
        cases r with
        | none => exact wpAny_pure (q _)
        | some b => exact wpAny_pure (q _)
theorem byv_keys : ∀ (ks : List NestedKey) (vs : List Value) (n : Nat) (Q : Option Bool × Unit → Shared → Prop), NestedAll s.heap ks vs → (∀ r, Q (r, ()) s) →
    wpAny (model P w) A (forIn vs ((none, ()) : Option Bool × Unit) fun y r => do if (!(← hashByValue n y)) = true then pure (ForInStep.done (some false, ())) else pure (ForInStep.yield (none, ()))) Q E s
  | [], _, n, Q, x, q => by cases x; exact wpAny_pure (q _)
  | k :: ks, _, n, Q, x, q => by
    cases x with
    | cons x1 x2 =>
      rw [List.forIn_cons]
      refine wpAny_bind (wpAny_bind (byv_key k _ n _ x1 fun b => ?_))
      cases b with
      | true => exact wpAny_pure (byv_keys ks _ n Q x2 q)
      | false => exact wpAny_pure (wpAny_pure (q _))
end
/-- the search among them shows nothing -/
theorem seen_key {k : NestedKey} {b : Addr} (hx : Kt P w s.heap k b) : ∀ {l : List Value} {Q : Bool → Shared → Prop}, (∀ y ∈ l, ∃ q c, y = Value.ref c ∧ Kt P w s.heap q c) → Q false s → wpAny (model P w) A (searchCouldBeSeen (.ref b) l) Q E s := by
  intro l Q hl q
  unfold searchCouldBeSeen
  refine wpAny_bind (wpAny_forIn_list _ (fun r (z : Option Bool × Unit) s' => z.1 = none ∧ s' = s ∧ ∀ y ∈ r, ∃ q c, y = Value.ref c ∧ Kt P w s.heap q c) _ ?_ ?_ _ _ ⟨rfl, rfl, hl⟩)
  · rintro y r z s' ⟨e1, rfl, hr⟩
    obtain ⟨q', c, rfl, hc⟩ := hr y List.mem_cons_self
    have hr' := fun v (hv : v ∈ r) => hr v (List.mem_cons_of_mem _ hv)
    dsimp only
    split
    · exact wpAny_pure ⟨rfl, rfl, hr'⟩
    · refine wpAny_bind ((nestedKind P w).quiet hx ?_)
      rw [if_neg (by decide : ¬ (!true) = true)]
      refine wpAny_bind ((nestedKind P w).quiet hc ?_)
      rw [if_neg (by decide : ¬ (!true) = true)]
      refine wpAny_bind (cls_key k _ 8 _ hx.1 hx.2 ?_)
      rw [if_neg Bool.false_ne_true]
      refine wpAny_bind (cls_key q' _ 8 _ hc.1 hc.2 ?_)
      rw [if_neg Bool.false_ne_true]
      exact wpAny_pure ⟨rfl, rfl, hr'⟩
  · rintro ⟨z1, z2⟩ s' ⟨e1, rfl, _⟩
    obtain rfl : z1 = none := e1
    exact wpAny_pure q

/-! ### the set -/
abbrev rw1 (w : World) (p : Addr × NestedKey) : Int × Value := (hs w p.2, Value.ref p.1)
structure NS (P : Program) (w : World) (h : Heap) (a : Addr) (L : List (Addr × NestedKey)) (es : Array (Int × Value)) (ep : Nat) (t : SetTable) : Prop where
  ob : ∃ u, h.get? a = some u ∧ u.ExactSet ∧ u.data = .set es ep t
  row : es.toList = L.map (rw1 w)
  tab : TabOk t (L.map fun p => hs w p.2)
  one : (L.map (·.2)).Nodup
  key : ∀ p ∈ L, Kt P w h p.2 p.1
  led : w.params.followText "set-order" = true ∨ t.led = true
  gap : L.length * 5 < t.mask * 3
  few : L.length < 64
variable {a : Addr} {L : List (Addr × NestedKey)} {es : Array (Int × Value)} {ep : Nat} {t : SetTable}
theorem rows_len (h : es.toList = L.map (rw1 w)) : es.size = L.length := by
  have := congrArg List.length h
  simpa using this
theorem tfits_of (h1 : t.place.size = es.size) (h2 : t.dummies = #[]) (h3 : es.size ≤ t.mask) : t.fits es.size = true := by
  simp only [SetTable.fits, SetTable.fill, h2, Bool.and_eq_true, beq_iff_eq, decide_eq_true_eq]
  exact ⟨h1, by show t.place.size + 0 ≤ t.mask; omega⟩
theorem NS.fit (Z : NS P w s.heap a L es ep t) : t.fits es.size = true := by
  have h1 := rows_len Z.row
  have h2 := Z.tab.sz
  have h3 := Z.gap
  rw [List.length_map] at h2
  exact tfits_of (h2.trans h1.symm) Z.tab.dm (by omega)
theorem row_at (h : es.toList = L.map (rw1 w)) {i : Nat} {p : Addr × NestedKey} (hp : L[i]? = some p) : es[i]? = some (hs w p.2, Value.ref p.1) := by
  rw [← Array.getElem?_toList, h, List.getElem?_map, hp]
  rfl
theorem odd_on (h : MaskOk t.mask) : ¬ t.gaveWay = true := by
  rcases h with e | e | e <;> (unfold SetTable.gaveWay; rw [e]; decide)
abbrev stp (t : SetTable) (h : Int) (c : Nat) : SetTable.Probe := nth t.mask (runAt t.mask (SetTable.bits h % (t.mask + 1)) (SetTable.bits h)) c
theorem stp_add (t : SetTable) (h : Int) (c d : Nat) : nth t.mask (stp t h c) d = stp t h (c + d) := (nth_add t.mask c _ d).symm
theorem stp_dummy (t : SetTable) (h : Int) : ∀ c, (stp t h c).dummy = none
  | 0 => rfl
  | c + 1 => by
    rw [← stp_add t h c 1]
    have ih := stp_dummy t h c
    show (adv t.mask (stp t h c)).dummy = none
    unfold adv
    split <;> exact ih
/-- the search, from its c-th place on -/
theorem NS.seek (Z : NS P w s.heap a L es ep t) {x : Addr} {k : NestedKey} (hx : Kt P w s.heap k x) (hu : A.units + 8 < cLine) {K : Nat} (hout : way t.mask (hs w k) K ∉ t.place.toList) (hin : ∀ c, c < K → way t.mask (hs w k) c ∈ t.place.toList)
    (hlt : K < 10 * SetTable.turns t.mask) {Q : SetFound → Shared → Prop} (yes : k ∈ L.map (·.2) → Q (.there none) s) (no : k ∉ L.map (·.2) → Q (.free (way t.mask (hs w k) K) false) s) :
    ∀ (n c : Nat) (st : Option SetTable.Probe), st.getD (t.probeStart (hs w k)) = stp t (hs w k) c → c ≤ K → K < c + n → (∀ (i : Nat) (p : Addr × NestedKey), L[i]? = some p → p.2 = k → ∃ d, c ≤ d ∧ d < K ∧ t.place.toList[i]? = some (way t.mask (hs w k) d)) →
      wpAny (model P w) A (setSearchFrom a (.ref x) (hs w k) true n st) Q E s := by
  obtain ⟨ob, ho, hex, hd⟩ := Z.ob
  intro n
  induction n with
  | zero => intro c st _ h1 h2; omega
  | succ n ih =>
    intro c st hst hcK hn hre
    rw [setSearchFrom_succ]
    refine wpAny_bind (wpAny_setState_of ho hd Z.fit ?_)
    dsimp only
    rw [if_neg (odd_on Z.tab.mok)]
    try refine wpAny_bind (wpAny_pure ?_)
    have hashes : ∀ (i : Nat) (p : Addr × NestedKey), L[i]? = some p → ((es[i]?.map (·.1)).getD 0) = hs w p.2 := fun i p hp => by
      rw [row_at Z.row hp]
      rfl
    have G := go_spec t Z.tab.ris Z.tab.dm (fun i => (es[i]?.map (·.1)).getD 0) (hs w k) (10 * SetTable.turns t.mask) (K - c) _ (stp_dummy t (hs w k) c) (by omega)
      (fun q hq => by rw [stp_add]; exact hin (c + q) (by omega)) (by rw [stp_add, show c + (K - c) = K by omega]; exact hout)
    rw [hst]
    rcases G with ⟨q, i, hq, hi, hh, hno, hpr⟩ | ⟨hno, hpr⟩
    · rw [stp_add] at hi
      rw [stp_add, stp_add] at hpr
      have hpr : t.probe (fun i => (es[i]?.map (·.1)).getD 0) (hs w k) (stp t (hs w k) c) = _ := hpr
      rw [hpr]
      dsimp only
      have hil : i < L.length := by
        have h1 := (List.getElem?_eq_some_iff.mp hi).1
        have h2 := Z.tab.sz
        rw [List.length_map] at h2
        rw [Array.length_toList] at h1
        omega
      obtain ⟨p, hp⟩ : ∃ p, L[i]? = some p := ⟨_, List.getElem?_eq_getElem hil⟩
      have hm : p ∈ L := List.mem_of_getElem? hp
      have fin : wpAny (model P w) A (searchRest a (.ref x) (hs w k) true n es t (way t.mask (hs w k) (c + q)) i (stp t (hs w k) (c + (q + 1)))) Q E s := by
        unfold searchRest
        rw [row_at Z.row hp]
        dsimp only
        refine wpAny_bind (wpAny_holding ((nestedKind P w).eqBool hu (Z.key p hm) hx ?_))
        refine wpAny_bind (wpAny_setState_of ho hd Z.fit ?_)
        dsimp only
        by_cases e : p.2 = k
        · rw [decide_eq_true e, if_pos (by rfl)]
          exact wpAny_pure (yes (List.mem_map.mpr ⟨p, hm, e⟩))
        · have hsl : t.slot (way t.mask (hs w k) (c + q)) = .live i := slot_live Z.tab.ris hi
          rw [decide_eq_false e, if_neg (by decide)]
          try refine wpAny_bind (wpAny_pure ?_)
          rw [sameMem]
          dsimp only
          simp only [if_true, hsl, row_at Z.row hp]
          refine wpAny_bind (wpAny_isSame_ref_self (wpAny_bind (wpAny_pure ?_)))
          simp only [if_true, Bool.false_eq_true, if_false]
          refine ih (c + (q + 1)) _ rfl (by omega) (by omega) fun j p' hj e' => ?_
          obtain ⟨d, d1, d2, d3⟩ := hre j p' hj e'
          refine ⟨d, ?_, d2, d3⟩
          by_cases hdq : d < c + q
          · refine absurd ?_ (hno (d - c) j (by omega) (by rw [stp_add, show c + (d - c) = d by omega]; exact d3))
            rw [hashes j p' hj, e']
          · by_cases hde : d = c + q
            · rw [hde] at d3
              have z := slot_live Z.tab.ris d3
              rw [hsl] at z
              injection z with z
              rw [← z, hp] at hj
              cases hj
              exact absurd e' e
            · omega
      cases hl : t.led with
      | true =>
        rw [if_neg (by decide)]
        try refine wpAny_bind (wpAny_pure ?_)
        exact fin
      | false =>
        rw [if_pos (by decide)]
        refine wpAny_bind (seen_key hx (fun y hy => ?_) ?_)
        · obtain ⟨e, he, rfl⟩ := List.mem_map.mp hy
          have he2 : e ∈ es.toList := by
            have : e ∈ es ∧ e.1 = hs w k := by simpa using he
            exact Array.mem_toList_iff.mpr this.1
          rw [Z.row] at he2
          obtain ⟨p2, m2, rfl⟩ := List.mem_map.mp he2
          exact ⟨p2.2, p2.1, rfl, Z.key p2 m2⟩
        · rw [if_neg Bool.false_ne_true]
          try refine wpAny_bind (wpAny_pure ?_)
          exact fin
    · rw [stp_add, show c + (K - c) = K by omega] at hpr
      have hpr : t.probe (fun i => (es[i]?.map (·.1)).getD 0) (hs w k) (stp t (hs w k) c) = _ := hpr
      rw [hpr]
      dsimp only
      refine wpAny_pure (no fun hm => ?_)
      obtain ⟨p, mp, e⟩ := List.mem_map.mp hm
      obtain ⟨i, hi⟩ := List.getElem?_of_mem mp
      obtain ⟨d, d1, d2, d3⟩ := hre i p hi e
      refine hno (d - c) i (by omega) (by rw [stp_add, show c + (d - c) = d by omega]; exact d3) ?_
      rw [hashes i p hi, e]
theorem NS.look (Z : NS P w s.heap a L es ep t) {x : Addr} {k : NestedKey} (hx : Kt P w s.heap k x) (hu : A.units + 8 < cLine) {Q : SetFound → Shared → Prop} (yes : k ∈ L.map (·.2) → Q (.there none) s)
    (no : ∀ K, k ∉ L.map (·.2) → way t.mask (hs w k) K ∉ t.place.toList → (∀ c, c < K → way t.mask (hs w k) c ∈ t.place.toList) → Q (.free (way t.mask (hs w k) K) false) s) :
    wpAny (model P w) A (setSearch a (.ref x) (hs w k) true) Q E s := by
  have hg := Z.gap
  obtain ⟨K, k1, k2, k3⟩ := Z.tab.first (by rw [List.length_map]; omega) (hs w k)
  have hK : K < 100000 := by
    rcases Z.tab.mok with e | e | e <;> (rw [e] at k1; unfold SetTable.turns at k1; omega)
  unfold setSearch
  refine Z.seek hx hu k2 k3 k1 yes (fun z => no K z k2 k3) 100000 0 none rfl (Nat.zero_le _) (by omega) fun i p hp e => ?_
  have h1 : (L.map fun p => hs w p.2)[i]? = some (hs w k) := by rw [List.getElem?_map, hp, ← e]; rfl
  have h2 : i < t.place.toList.length := by
    have := Z.tab.sz
    have := (List.getElem?_eq_some_iff.mp hp).1
    rw [List.length_map] at *
    rw [Array.length_toList]
    omega
  obtain ⟨d, d1, d2⟩ := Z.tab.before k2 h1 (List.getElem?_eq_getElem h2)
  exact ⟨d, Nat.zero_le _, d1, by rw [d2]; exact List.getElem?_eq_getElem h2⟩
end
end BK
set_option Elab.async false
set_option linter.all false
set_option maxRecDepth 100000
set_option maxHeartbeats 4000000
/-! Sets of tuples of any depth: adding, set(xs). -/
namespace BK
open PySem PySem.Spec PyProof.Rows L2
section
variable {P : Program} {w : World} {A : Around} {E : Value → Shared → Prop} {s : Shared}
variable {a : Addr} {L : List (Addr × NestedKey)} {es : Array (Int × Value)} {ep : Nat} {t : SetTable}
theorem kt_keep {h h' : Heap} {k : NestedKey} {b : Addr} (x : Kt P w h k b) (g : ∀ c o, h.get? c = some o → h'.get? c = some o) : Kt P w h' k b := ⟨NestedIs.at (fun c o _ _ e _ => g c o e) k _ x.1, x.2⟩
/-- a set is no tuple -/
theorem kt_same {h h' : Heap} {k : NestedKey} {b : Addr} {u : Obj} (x : Kt P w h k b) (hu : h.get? a = some u) (hd : u.data = .set es ep t) (g : Heap.SameBut a h h') : Kt P w h' k b :=
  ⟨NestedIs.at (fun c o vs n e ed => by
    refine (g.2 c fun z => ?_).trans e
    rw [z, hu] at e
    cases e
    rw [hd] at ed
    cases ed) k _ x.1, x.2⟩
theorem mid_perm {α : Type} (l : List α) (p : Nat) (x : α) : (l.take p ++ x :: l.drop p).Perm (x :: l) := by
  have := List.perm_middle (a := x) (l₁ := l.take p) (l₂ := l.drop p)
  rwa [List.take_append_drop] at this
theorem pick_all {α : Type} (l : List α) : (List.range l.length).filterMap (fun i => l[i]?) = l := by
  induction l with
  | nil => rfl
  | cons x l ih =>
    rw [List.length_cons, List.range_succ_eq_map, List.filterMap_cons, List.filterMap_map]
    exact congrArg (List.cons x) ih
/-- the rows in another order -/
theorem rows_order (h : es.toList = L.map (rw1 w)) {o : Array Nat} (hp : o.toList.Perm (List.range L.length)) :
    ∃ L' : List (Addr × NestedKey), (o.filterMap (es[·]?)).toList = L'.map (rw1 w) ∧ L'.Perm L ∧ (L'.map fun p => hs w p.2) = o.toList.map fun i => (es.map (·.1)).getD i 0 := by
  have hlt : ∀ i ∈ o.toList, i < L.length := fun i hi => List.mem_range.mp (hp.mem_iff.mp hi)
  have e1 : ∀ i, es[i]? = (L[i]?).map (rw1 w) := fun i => by rw [← Array.getElem?_toList, h, List.getElem?_map]
  refine ⟨o.toList.filterMap fun i => L[i]?, ?_, ?_, ?_⟩
  · rw [Array.toList_filterMap, List.map_filterMap]
    exact congrArg (fun f => List.filterMap f o.toList) (funext e1)
  · have := hp.filterMap fun i => L[i]?
    rwa [pick_all] at this
  · generalize o.toList = l at hlt
    induction l with
    | nil => rfl
    | cons i l ih =>
      have hi := hlt i List.mem_cons_self
      rw [List.filterMap_cons_some (List.getElem?_eq_getElem hi), List.map_cons, List.map_cons, ih fun j hj => hlt j (List.mem_cons_of_mem _ hj)]
      congr 1
      have : (es.map (·.1))[i]? = some (hs w (L[i]).2) := by
        rw [Array.getElem?_map, e1, List.getElem?_eq_getElem hi]
        rfl
      rw [Array.getD_eq_getD_getElem?, this]
      rfl
/-- laid anew, larger -/
theorem relay_key {u : Obj} (ho : s.heap.get? a = some u) (hex : u.ExactSet) (hd : u.data = .set es ep t) (hr : es.toList = L.map (rw1 w)) (h1 : t.place.size = es.size) (h2 : t.dummies = #[]) (h3 : es.size ≤ t.mask) (one : (L.map (·.2)).Nodup)
    (key : ∀ p ∈ L, Kt P w s.heap p.2 p.1) (led : w.params.followText "set-order" = true ∨ t.led = true) (few : L.length < 64) {n M : Nat} (hn : SetTable.sizeAbove n - 1 = M) (hM : MaskOk M) (hn2 : SetTable.sizeAbove n ≤ 128) (gap : L.length * 5 < M * 3)
    {Q : Unit → Shared → Prop} (q : ∀ (h' : Heap) (L' : List (Addr × NestedKey)) (es' : Array (Int × Value)) (ep' : Nat) (t' : SetTable), Heap.SameBut a s.heap h' → NS P w h' a L' es' ep' t' → L'.Perm L → Q () { s with heap := h' }) : wpAny (model P w) A (setRelay a n) Q E s := by
  have hl := rows_len hr
  obtain ⟨t', o, e, hp, T, em, el, _, _⟩ := relaid_ok t (hs := es.map (·.1)) (wanted := n) hn hM (by rw [Array.size_map, hl]; omega)
  rw [Array.size_map, hl] at hp
  obtain ⟨L', r1, r2, r3⟩ := rows_order hr hp
  have hz : (o.filterMap (es[·]?)).size = es.size := by rw [rows_len r1, r2.length_eq, hl]
  rw [setRelay_eq]
  refine wpAny_bind (wpAny_setState_of ho hd (tfits_of h1 h2 h3) ?_)
  dsimp only
  rw [if_neg (by rw [sizeLine_eq]; omega), e]
  try refine wpAny_bind (wpAny_pure ?_)
  dsimp only
  refine wpAny_bind ?_
  rw [if_neg (by rw [hz]; simp)]
  try refine wpAny_bind (wpAny_pure ?_)
  refine wpAny_pure ?_
  dsimp only
  refine wpAny_storeSet_of ho hd ?_ (by rw [hz, hl, sizeLine_eq]; omega)
  have g : Heap.SameBut a s.heap (s.heap.update a (Obj.putSet (o.filterMap (es[·]?)) t')) := Heap.SameBut.update ..
  rw [← r3] at T
  exact q _ L' _ (ep + 1) t' g ⟨⟨_, store_at ho hd, ⟨hex.1, hex.2.1, hex.2.2⟩, rfl⟩, r1, T, (r2.map (·.2)).nodup_iff.mpr one, fun p hp => kt_same (key p (r2.mem_iff.mp hp)) ho hd g, by rw [el]; exact led, by rw [r2.length_eq, em]; exact gap, by rw [r2.length_eq]; exact few⟩ r2
/-- one more item -/
theorem NS.add (Z : NS P w s.heap a L es ep t) {x : Addr} {k : NestedKey} (hx : Kt P w s.heap k x) (hu : A.units + 8 < cLine) (hfew : L.length + 1 < 64) {Q : Bool → Shared → Prop}
    (q : ∀ (b : Bool) (h' : Heap) (L' : List (Addr × NestedKey)) (es' : Array (Int × Value)) (ep' : Nat) (t' : SetTable), Heap.SameBut a s.heap h' → NS P w h' a L' es' ep' t' → (k ∈ L.map (·.2) → L' = L) → (k ∉ L.map (·.2) → L'.Perm ((x, k) :: L)) → Q b { s with heap := h' }) :
    wpAny (model P w) A (setAddHashed a (.ref x) (hs w k)) Q E s := by
  obtain ⟨u, ho, hex, hd⟩ := Z.ob
  have hl := rows_len Z.row
  have hgap := Z.gap
  unfold setAddHashed
  refine wpAny_holding ?_
  rw [show (100000 : Nat) = 99999 + 1 from rfl, setAddHashedIn_succ]
  refine wpAny_bind (wpAny_setState_of ho hd Z.fit ?_)
  dsimp only
  rw [if_neg (by simp [byScan, Value.scannable])]
  try refine wpAny_bind (wpAny_pure ?_)
  refine wpAny_bind (Z.look hx hu (fun hm => ?_) fun K hm hK hb => ?_)
  · exact wpAny_pure (q false s.heap L es ep t (Heap.SameBut.refl a s.heap) Z (fun _ => rfl) fun z => absurd hm z)
  dsimp only
  refine wpAny_bind (wpAny_setState_of ho hd Z.fit ?_)
  dsimp only
  obtain ⟨q1, q2, q3, q4, q5, q6, q7, q8, q9⟩ := Z.tab.put hK hb
  generalize hpt : t.put (way t.mask (hs w k) K) = pt at q1 q3 q4 q5 q6 q7 q8 q9 ⊢
  obtain ⟨t1, p⟩ := pt
  dsimp only at q1 q3 q4 q5 q6 q7 q8 q9 ⊢
  subst q1
  have hin : (SetTable.insertAt es (SetTable.below t.place (way t.mask (hs w k) K)) (hs w k, Value.ref x)).toList = (L.take (SetTable.below t.place (way t.mask (hs w k) K)) ++ (x, k) :: L.drop (SetTable.below t.place (way t.mask (hs w k) K))).map (rw1 w) := by
    rw [SetTable.toList_insertAt, Z.row, List.map_append, List.map_cons, List.map_take, List.map_drop]
  generalize SetTable.below t.place (way t.mask (hs w k) K) = p at q2 q3 hin ⊢
  have pm := mid_perm L p (x, k)
  have hhs : (L.take p ++ (x, k) :: L.drop p).map (fun p => hs w p.2) = (L.map fun p => hs w p.2).take p ++ hs w k :: (L.map fun p => hs w p.2).drop p := by
    rw [List.map_append, List.map_cons, List.map_take, List.map_drop]
  rw [← hhs] at q3
  generalize L.take p ++ (x, k) :: L.drop p = L1 at pm q3 hin
  have hl1 : L1.length = L.length + 1 := pm.length_eq
  have he1 := rows_len hin
  have one1 : (L1.map (·.2)).Nodup := by
    rw [(pm.map (·.2)).nodup_iff, List.map_cons]
    exact List.nodup_cons.mpr ⟨hm, Z.one⟩
  generalize SetTable.insertAt es p (hs w k, Value.ref x) = es1 at hin he1 ⊢
  -- the table, with its word on what the hashes are of
  have fin : ∀ t2 : SetTable, t2.place = t1.place → t2.dummies = t1.dummies → t2.mask = t1.mask → t2.led = t1.led → wpAny (model P w) A (do
      storeSet a es1 t2
      if (!false && t2.tooFull) = true then setRelay a (SetTable.grown (es.size + 1))
      return true) Q E s := by
    intro t2 f1 f2 f3 f4
    have T2 : TabOk t2 (L1.map fun p => hs w p.2) := by
      obtain ⟨m1, m2, m3, m4, m5, m6⟩ := q3
      exact ⟨by rw [f1]; exact m1, by rw [f2]; exact m2, by rw [f1]; exact m3, by rw [f3]; exact m4, by rw [f1, f3]; exact m5, by rw [f1, f3]; exact m6⟩
    have hfull : t2.tooFull = decide ((L.length + 1) * 5 ≥ t.mask * 3) := by
      have h9 : t1.tooFull = t2.tooFull := by
        unfold SetTable.tooFull SetTable.fill
        rw [f1, f2, f3]
      rw [← h9]
      unfold SetTable.tooFull
      rw [q9, q4, List.length_map]
    refine wpAny_bind (wpAny_storeSet_of ho hd ?_ (by rw [he1, hl1, sizeLine_eq]; omega))
    have g : Heap.SameBut a s.heap (s.heap.update a (Obj.putSet es1 t2)) := Heap.SameBut.update ..
    have ho1 := store_at (es' := es1) (t' := t2) ho hd
    generalize s.heap.update a (Obj.putSet es1 t2) = h1 at g ho1 ⊢
    have key1 : ∀ p ∈ L1, Kt P w h1 p.2 p.1 := fun p hp => by
      rcases List.mem_cons.mp (pm.mem_iff.mp hp) with e | hp
      · rw [e]; exact kt_same hx ho hd g
      · exact kt_same (Z.key p hp) ho hd g
    have led1 : w.params.followText "set-order" = true ∨ t2.led = true := by rw [f4, q5]; exact Z.led
    have sz := T2.sz
    rw [List.length_map, hl1] at sz
    by_cases hf : (L.length + 1) * 5 ≥ t.mask * 3
    · rw [if_pos (by rw [hfull, decide_eq_true hf]; rfl)]
      have two : (t.mask = 7 ∧ L.length = 4) ∨ (t.mask = 31 ∧ L.length = 18) := by
        rcases Z.tab.mok with e | e | e <;> rw [e] at hf hgap <;> omega
      rw [hl]
      have go : ∀ M, SetTable.sizeAbove (SetTable.grown (L.length + 1)) - 1 = M → MaskOk M → SetTable.sizeAbove (SetTable.grown (L.length + 1)) ≤ 128 → (L.length + 1) * 5 < M * 3 →
          wpAny (model P w) A (do setRelay a (SetTable.grown (L.length + 1)); return true) Q E { s with heap := h1 } := fun M m1 m2 m3 m4 =>
        wpAny_bind (relay_key (s := { s with heap := h1 }) ho1 ⟨hex.1, hex.2.1, hex.2.2⟩ rfl hin (by rw [he1, hl1]; exact sz) T2.dm (by rw [he1, hl1, f3, q4]; omega) one1 key1 led1 (by rw [hl1]; exact hfew) m1 m2 m3 (by rw [hl1]; exact m4)
          fun h2 L2 es2 ep2 t2 g2 Z2 pm2 => wpAny_pure (q true h2 L2 es2 ep2 t2 (g.trans g2) Z2 (fun z => absurd z hm) fun _ => pm2.trans pm))
      rcases two with ⟨_, e⟩ | ⟨_, e⟩
      · exact go 31 (by rw [e, size_20]) (.inr (.inl rfl)) (by rw [e, size_20]; decide) (by omega)
      · exact go 127 (by rw [e, size_76]) (.inr (.inr rfl)) (by rw [e, size_76]; decide) (by omega)
    · rw [if_neg (by rw [hfull, decide_eq_false hf]; decide)]
      try refine wpAny_bind (wpAny_pure ?_)
      exact wpAny_pure (q true h1 L1 es1 (ep + 1) t2 g ⟨⟨_, ho1, ⟨hex.1, hex.2.1, hex.2.2⟩, rfl⟩, hin, T2, one1, key1, led1, by rw [f3, q4, hl1]; omega, by rw [hl1]; exact hfew⟩ (fun z => absurd z hm) fun _ => pm)
  have hyes : wpAny (model P w) A (do
      storeSet a es1 t1
      if (!false && t1.tooFull) = true then setRelay a (SetTable.grown (es.size + 1))
      return true) Q E s := fin t1 rfl rfl rfl rfl
  have hno := fin { t1 with plain := false } rfl rfl rfl rfl
  cases hpl : t1.plain with
  | true =>
    rw [if_pos rfl]
    refine wpAny_bind (byv_key k _ 8 _ hx.1 fun b => ?_)
    cases b with
    | true => exact hyes
    | false => exact hno
  | false =>
    rw [if_neg Bool.false_ne_true]
    refine wpAny_bind (wpAny_pure ?_)
    exact hyes
end
end BK
set_option Elab.async false
set_option linter.all false
set_option maxRecDepth 100000
set_option maxHeartbeats 8000000
/-! set(xs), xs a list or a tuple of tuples. -/
namespace BK
open PySem PySem.Spec PyProof.Rows L2
section
variable {P : Program} {w : World} {A : Around} {E : Value → Shared → Prop} {s : Shared}
/-- what of the first i items is in the set -/
structure Had (ks : List (Addr × NestedKey)) (i : Nat) (L : List (Addr × NestedKey)) : Prop where
  inn : ∀ p ∈ L, p ∈ ks.take i
  all : ∀ p ∈ ks.take i, p.2 ∈ L.map (·.2)
  len : L.length ≤ i
theorem Had.next {ks L L' : List (Addr × NestedKey)} {i : Nat} {x : Addr × NestedKey} (g : Had ks i L) (h : ks[i]? = some x) (c1 : x.2 ∈ L.map (·.2) → L' = L) (c2 : x.2 ∉ L.map (·.2) → L'.Perm (x :: L)) : Had ks (i + 1) L' := by
  have e : ks.take (i + 1) = ks.take i ++ [x] := by rw [List.take_succ, h]; rfl
  by_cases hm : x.2 ∈ L.map (·.2)
  · rw [c1 hm]
    refine ⟨fun p hp => by rw [e]; exact List.mem_append_left _ (g.inn p hp), fun p hp => ?_, by have := g.len; omega⟩
    rw [e] at hp
    rcases List.mem_append.mp hp with z | z
    · exact g.all p z
    · rw [List.mem_singleton.mp z]; exact hm
  · have pm := c2 hm
    refine ⟨fun p hp => ?_, fun p hp => ?_, by have := g.len; rw [pm.length_eq, List.length_cons]; omega⟩
    · rw [e]
      rcases List.mem_cons.mp (pm.mem_iff.mp hp) with z | z
      · exact List.mem_append_right _ (List.mem_singleton.mpr z)
      · exact List.mem_append_left _ (g.inn p z)
    · rw [e] at hp
      rw [(pm.map (·.2)).mem_iff, List.map_cons]
      rcases List.mem_append.mp hp with z | z
      · exact List.mem_cons_of_mem _ (g.all p z)
      · rw [List.mem_singleton.mp z]; exact List.mem_cons_self
abbrev freshSet (w : World) : SetTable := .fresh 0 0 (!w.params.followText "set-order")
abbrev newSetObj (w : World) : Obj := { cls := .type "set", dict := none, data := .set #[] 0 (freshSet w) }
theorem NS.zero {h : Heap} {a : Addr} (ho : h.get? a = some (newSetObj w)) : NS P w h a [] #[] 0 (freshSet w) :=
  ⟨⟨_, ho, ⟨rfl, rfl, rfl⟩, rfl⟩, rfl, ⟨List.Pairwise.nil, rfl, rfl, .inl rfl, fun x hx => (by cases hx), fun i h j hi => (by simp at hi)⟩, List.nodup_nil, fun p hp => (by cases hp), by
    show _ ∨ (!w.params.followText "set-order") = true
    cases w.params.followText "set-order" <;> simp, (by decide : 0 * 5 < 7 * 3), (by decide : 0 < 64)⟩
theorem NS.keep {h h' : Heap} {a : Addr} {L : List (Addr × NestedKey)} {es : Array (Int × Value)} {ep : Nat} {t : SetTable} (Z : NS P w h a L es ep t) (g1 : ∀ u, h.get? a = some u → h'.get? a = some u) (g2 : ∀ p ∈ L, Kt P w h' p.2 p.1) : NS P w h' a L es ep t := by
  obtain ⟨u, ho, r⟩ := Z.ob
  exact ⟨⟨u, g1 u ho, r⟩, Z.row, Z.tab, Z.one, g2, Z.led, Z.gap, Z.few⟩
/-- the loop that fills it -/
theorem fill_keys {I : Addr} {fp wr : List Addr} {G : Array GenState → Array GenState → Prop} {n : Nat} {Pv : Nat → Value → Prop} {St : Nat → Shared → Prop} {R : Result → Shared → Prop} (W : WalksS P w A.in1 I fp wr G n Pv St) (S : Addr) (hS : S ∉ fp)
    (ks : List (Addr × NestedKey)) (hn : n = ks.length) (hfew : ks.length < 64) (hval : ∀ i v, Pv i v → ∃ p, ks[i]? = some p ∧ v = .ref p.1) (g : Heap) (hk : ∀ p ∈ ks, Kt P w g p.2 p.1) (gS : g.get? S = none) (gw : ∀ b ∈ wr, g.get? b = none) (hu : A.in1.units + 8 < cLine) :
    ∀ (m i : Nat) (s : Shared), n = i + m → St i s → (∀ b u, g.get? b = some u → s.heap.get? b = some u) → (∃ L es ep t, NS P w s.heap S L es ep t ∧ Had ks i L) →
      (∀ s' L es ep t, Moved (S :: wr) G s s' → NS P w s'.heap S L es ep t → Had ks n L → (∀ b u, g.get? b = some u → s'.heap.get? b = some u) → R (.ok (.ret .none)) s') →
      codeAny (model P w) A (.builtin "set.update.loop" ⟨[.ref S, .ref I], []⟩) R s := by
  have nS : S ∉ wr := fun z => hS (W.sub _ z)
  have wS : ∀ b ∈ wr, b ∈ S :: wr := fun b z => List.mem_cons_of_mem _ z
  have go : ∀ {s s' : Shared}, Moved wr G s s' → (∀ b u, g.get? b = some u → s.heap.get? b = some u) → ∀ b u, g.get? b = some u → s'.heap.get? b = some u := fun mv k b u e => mv.heap b u (fun z => by rw [gw b z] at e; cases e) (k b u e)
  intro m
  induction m with
  | zero =>
    rintro i s rfl hst hg ⟨L, es, ep, t, Z, had⟩ hR
    refine codeAny_builtin F.entry_set_update_loop ?_
    rw [Around.under_plainId F.plain_set_update_loop _]
    show wpAny _ A.in1 (pyNext (.ref I) >>= _) _ _ s
    refine wpAny_bind (W.done s _ _ hst fun s' mv => ?_)
    show wpAny _ A.in1 (ret Value.none) _ _ s'
    have hg' := go mv hg
    exact wpAny_pure (hR s' L es ep t (mv.mono wS) (Z.keep (fun u e => mv.heap S u nS e) fun p hp => kt_keep (hk p (List.mem_of_mem_take (had.inn p hp))) hg') had hg')
  | succ m ih =>
    intro i s hnm hst hg ⟨L, es, ep, t, Z, had⟩ hR
    refine codeAny_builtin F.entry_set_update_loop ?_
    rw [Around.under_plainId F.plain_set_update_loop _]
    show wpAny _ A.in1 (pyNext (.ref I) >>= _) _ _ s
    refine wpAny_bind (W.item i s _ _ (by omega) hst fun v s' hv hst' mv => ?_)
    obtain ⟨p, hp, rfl⟩ := hval i v hv
    have hg' := go mv hg
    have Z' : NS P w s'.heap S L es ep t := Z.keep (fun u e => mv.heap S u nS e) fun q hq => kt_keep (hk q (List.mem_of_mem_take (had.inn q hq))) hg'
    have hx : Kt P w s'.heap p.2 p.1 := kt_keep (hk p (List.mem_of_getElem? hp)) hg'
    show wpAny _ A.in1 (holding [Value.ref p.1] (setAdd S (.ref p.1)) >>= _) _ _ s'
    refine wpAny_bind (wpAny_holding ?_)
    unfold setAdd
    refine wpAny_holding (wpAny_bind ((nestedKind P w).pyHash hu hx ?_))
    have hln := had.len
    have hil := (List.getElem?_eq_some_iff.mp hp).1
    refine NS.add (s := { s' with toks := s'.toks + NestedKey.draws p.2 }) Z' hx hu (by omega) fun b h' L' es' ep' t' sb Z2 c1 c2 => ?_
    have hg2 : ∀ b u, g.get? b = some u → h'.get? b = some u := fun b u e => (sb.2 b (fun z => by rw [z, gS] at e; cases e)).trans (hg' b u e)
    refine wpAny_pure ⟨plainId_quiet F.plain_set_update_loop _, ih (i + 1) _ (by omega) (W.frame _ s' _ _ hst' (Nat.le_add_right _ _) fun b hb u e => ?_) hg2 ⟨L', es', ep', t', Z2, had.next hp c1 c2⟩ fun s2 L2 es2 ep2 t2 mv2 Z3 had2 hg3 => ?_⟩
    · rw [sb.2 b (fun z : b = S => hS (z ▸ hb))]; exact e
    · refine hR s2 L2 es2 ep2 t2 (Moved.trans W.gtrans ((mv.mono wS).then_heap (Nat.le_add_right _ _) fun b u hb e => ?_) mv2) Z3 had2 hg3
      rw [sb.2 b (fun z : b = S => hb (by rw [z]; exact List.mem_cons_self))]; exact e
theorem refs_at {items : Array Value} {ks : List (Addr × NestedKey)} (h : items.toList = ks.map fun p => Value.ref p.1) (i : Nat) (v : Value) (hv : items[i]? = some v) : ∃ p, ks[i]? = some p ∧ v = .ref p.1 := by
  rw [← Array.getElem?_toList, h, List.getElem?_map, Option.map_eq_some_iff] at hv
  obtain ⟨p, hp, e⟩ := hv
  exact ⟨p, hp, e.symm⟩
theorem gone_at {h : Heap} (b : Addr) (hb : h.objs.size ≤ b) : h.get? b = none := by
  cases q : h.get? b with
  | none => rfl
  | some u => exact absurd (Heap.lt_size q) (Nat.not_lt.mpr hb)
theorem pushed {h : Heap} {u o : Obj} (hf : o.isFreed = false) : ((h.push u).push o).get? (h.objs.size + 1) = some o := by
  have z : (h.push u).objs.size = h.objs.size + 1 := Heap.size_push ..
  rw [← z]
  exact Heap.get?_push_size _ hf
/-- filled from an iterator that was just made -/
theorem fill_new {l : Addr} {items : Array Value} {ks : List (Addr × NestedKey)} {itO : Obj} {St : Nat → Heap → Prop} {R : Result → Shared → Prop} (W : Walks P w A.in1 (s.heap.objs.size + 1) [s.heap.objs.size + 1, l] [s.heap.objs.size + 1] items.size (fun i v => items[i]? = some v) St)
    (h0 : St 0 ((s.heap.push (newSetObj w)).push itO)) (hit : items.toList = ks.map fun p => Value.ref p.1) (hk : ∀ p ∈ ks, Kt P w s.heap p.2 p.1) (hfew : ks.length < 64) (hu : A.in1.units + 8 < cLine) (hlt : l < s.heap.objs.size)
    (hR : ∀ s' L es ep t, NS P w s'.heap s.heap.objs.size L es ep t → Had ks ks.length L → (∀ b u, s.heap.get? b = some u → s'.heap.get? b = some u) → s'.gens = s.gens → s'.drawn = s.drawn → s'.os = s.os → R (.ok (.ret .none)) s') :
    codeAny (model P w) A (.builtin "set.update.loop" ⟨[.ref s.heap.objs.size, .ref (s.heap.objs.size + 1)], []⟩) R { s with heap := (s.heap.push (newSetObj w)).push itO } := by
  have hz : items.size = ks.length := by
    have := congrArg List.length hit
    simpa using this
  have hS : (s.heap.push (newSetObj w)).get? s.heap.objs.size = some (newSetObj w) := Heap.get?_push_size _ rfl
  refine fill_keys W.toS s.heap.objs.size (fun z => ?_) ks hz hfew (refs_at hit) s.heap hk (gone_at _ (Nat.le_refl _)) (fun b hb => gone_at b (by rw [List.mem_singleton.mp hb]; exact Nat.le_succ _)) hu
    items.size 0 _ (by omega) h0 (fun b u e => Heap.get?_push_of_some _ (Heap.get?_push_of_some _ e)) ⟨[], #[], 0, _, NS.zero (Heap.get?_push_of_some _ hS), ⟨fun p z => (by cases z), fun p z => (by simp at z), Nat.le_refl _⟩⟩ fun s' L es ep t mv Z had hg => ?_
  · rcases List.mem_cons.mp z with z | z
    · exact absurd z (Nat.ne_of_lt (Nat.lt_succ_self _))
    · rw [List.mem_singleton.mp z] at hlt
      exact absurd hlt (Nat.lt_irrefl _)
  · rw [hz] at had
    exact hR s' L es ep t Z had hg mv.gens mv.drawn mv.os
set_option maxHeartbeats 6400000 in
theorem call_setK {l : Addr} {items : Array Value} (ks : List (Addr × NestedKey)) {Q : Value → Shared → Prop} (hh : A.handled = none) (hl : s.heap.IsList l items ∨ s.heap.IsTuple l items) (hit : items.toList = ks.map fun p => Value.ref p.1)
    (hk : ∀ p ∈ ks, Kt P w s.heap p.2 p.1) (hfew : ks.length < 64) (hu : A.units + 20 < cLine)
    (h : ∀ (h' : Heap) (tk : Nat) L es ep t, NS P w h' s.heap.objs.size L es ep t → Had ks ks.length L → (∀ b u, s.heap.get? b = some u → h'.get? b = some u) → Q (.ref s.heap.objs.size) { s with heap := h', toks := tk }) :
    wpAny (model P w) A (call (.type "set") [.ref l]) Q E s := by
  have hz : items.size = ks.length := by
    have := congrArg List.length hit
    simpa using this
  obtain ⟨c, tl, hmro⟩ := F.called_set.mro
  have hmade := F.called_set.made
  have hsub := F.called_set.sub
  refine wpAny_call (codeAny_of_tree ?_)
  show wpAny _ _ (callAny (.type "set") _) _ _ _
  refine wpAny_pure ⟨Code.quiet_builtin _ (by decide +kernel), codeAny_builtin F.entry_type_call ?_⟩
  rw [Around.under_plain (weight_type_call_type "set" [.ref l] []) rfl]
  have n1 := F.called_set.notType
  have n2 := F.called_set.canCreate
  have n3 := F.typeCall_set_1 (.ref l)
  repeat (any_goals (first | assumption | wp_step))
  have hS : (s.heap.push (newSetObj w)).get? s.heap.objs.size = some (newSetObj w) := Heap.get?_push_size _ rfl
  refine codeAny_mono (code_set_led1 (.ref l) (E := E) (Q₁ := fun obj s₁ => obj = .ref s.heap.objs.size ∧ s₁ = { s with heap := s.heap.push (newSetObj w) }) ⟨rfl, rfl⟩) fun r s₁ hr => ?_
  cases r with
  | error e => exact hr
  | ok fl =>
    cases fl with
    | ret obj =>
      obtain ⟨rfl, rfl⟩ := hr
      have hT : Shared.TypeIs { s with heap := s.heap.push (newSetObj w) } (.ref s.heap.objs.size) "set" := ⟨_, hS, rfl⟩
      have hli := F.called_set.init.lookup
      have hbi := F.called_set.init.bind (.ref s.heap.objs.size)
      repeat (any_goals (first | assumption | wp_step))
      refine codeAny_mono (codeAny_call_builtin (R := wants (fun r s₂ => r = .none ∧ ∃ h' tk L es ep t, s₂ = { s with heap := h', toks := tk } ∧ NS P w h' s.heap.objs.size L es ep t ∧ Had ks ks.length L ∧
          (∀ b u, s.heap.get? b = some u → h'.get? b = some u)) E) F.called_set.init.plain F.entry_set_init (check_set_init_1 hT ?_)) fun r₂ s₂ hr₂ => ?_
      · have zI : (s.heap.push (newSetObj w)).objs.size = s.heap.objs.size + 1 := Heap.size_push ..
        rcases hl with hl | hl
        · obtain ⟨⟨ocls, odict, odata, oslots⟩, hol, hcl, nl, hdl⟩ := hl
          simp only at hcl hdl
          subst hcl; subst hdl
          have hol' : (s.heap.push (newSetObj w)).get? l = some { cls := .type "list", dict := odict, data := .seq items nl, slots := oslots } := Heap.get?_push_of_some _ hol
          have hlt : l < s.heap.objs.size := Heap.lt_size hol
          have hsls := F.sub_list_set
          have hslf := F.sub_list_frozenset
          have hne : (Value.type "list" == Value.type "dict") = false := by decide
          have hl1 : (s.heap.push (newSetObj w)).IsList l items := ⟨_, hol', rfl, nl, rfl⟩
          unfold Builtin.«set.__init__» noKeywords Builtin.Frozenset.updateFrom
          generalize hPI : pyIter = PI
          wp_walk
          subst hPI
          refine wpAny_pyIter_list hl1 (wpAny_bind (wpAny_runValue ?_))
          rw [zI]
          refine fill_new (Walks.list (A := A.in1.in1.in1) (by simp [hh]) _ l (Nat.ne_of_lt (Nat.lt_succ_of_lt hlt)) items) ⟨⟨_, pushed (by rfl), rfl, rfl⟩, hl1.push _⟩ hit hk hfew (by simp only [Around.in1_units]; omega) hlt fun s' L es ep t Z had hg e1 e2 e3 => ?_
          obtain ⟨h', g2, d', tk', os'⟩ := s'
          subst e1 e2 e3
          refine wpAny_pure ?_
          show wpAny _ _ (ret Value.none) _ _ _
          exact wpAny_pure ⟨rfl, h', tk', L, es, ep, t, rfl, Z, had, hg⟩
        · obtain ⟨⟨ocls, odict, odata, oslots⟩, hol, hcl, nl, hdl⟩ := hl
          simp only at hcl hdl
          subst hcl; subst hdl
          have hol' : (s.heap.push (newSetObj w)).get? l = some { cls := .type "tuple", dict := odict, data := .seq items nl, slots := oslots } := Heap.get?_push_of_some _ hol
          have hlt : l < s.heap.objs.size := Heap.lt_size hol
          have hsls := F.sub_tuple_set
          have hslf := F.sub_tuple_frozenset
          have hne : (Value.type "tuple" == Value.type "dict") = false := by decide
          have hl1 : (s.heap.push (newSetObj w)).IsTuple l items := ⟨_, hol', rfl, nl, rfl⟩
          unfold Builtin.«set.__init__» noKeywords Builtin.Frozenset.updateFrom
          generalize hPI : pyIter = PI
          wp_walk
          subst hPI
          refine wpAny_pyIter_tuple hl1 (wpAny_bind (wpAny_runValue ?_))
          rw [zI]
          refine fill_new (Walks.tuple (A := A.in1.in1.in1) (by simp [hh]) _ l (Nat.ne_of_lt (Nat.lt_succ_of_lt hlt)) items) ⟨⟨_, pushed (by rfl), rfl, rfl⟩, ⟨_, Heap.get?_push_of_some _ hol', rfl, nl, rfl⟩⟩ hit hk hfew (by simp only [Around.in1_units]; omega) hlt fun s' L es ep t Z had hg e1 e2 e3 => ?_
          obtain ⟨h', g2, d', tk', os'⟩ := s'
          subst e1 e2 e3
          refine wpAny_pure ?_
          show wpAny _ _ (ret Value.none) _ _ _
          exact wpAny_pure ⟨rfl, h', tk', L, es, ep, t, rfl, Z, had, hg⟩
      · cases r₂ with
        | error e => exact hr₂
        | ok fl₂ =>
          cases fl₂ with
          | ret r =>
            obtain ⟨rfl, h', tk, L, es, ep, t, rfl, Z, had, hg⟩ := hr₂
            repeat (any_goals (first | assumption | wp_step))
            exact h _ _ _ _ _ _ Z had hg
          | _ => exact hr₂.elim
    | _ => exact hr.elim
end
end BK
set_option Elab.async false
set_option linter.all false
set_option maxRecDepth 100000
set_option maxHeartbeats 4000000
/-! sorted(..) of what is gathered; sets and dicts whose items are tuples. -/
namespace BK
open PySem PySem.Spec PyProof.Rows L2
mutual
theorem nk_reads {h : Heap} : ∀ (d : PyData) (v : Value) (as : List Addr), (nk d).isSome = true → Reads h v d as → as = []
  | .none, _, _, _, r => by cases r; rfl
  | .int i, _, _, _, r => by cases r; rfl
  | .str x, _, _, _, r => by cases r; rfl
  | .tuple ds, _, _, n, r => by
    cases r with
    | tuple h1 h2 h3 h4 =>
      refine nks_reads ds _ _ ?_ h4
      simpa [nk] using n
  | .bool _, _, _, n, _ => by cases n
  | .list _, _, _, n, _ => by cases n
  | .dict _, _, _, n, _ => by cases n
theorem nks_reads {h : Heap} : ∀ (ds : List PyData) (vs : List Value) (as : List Addr), (nks ds).isSome = true → ReadsAll h vs ds as → as = []
  | [], _, _, _, r => by cases r; rfl
  | d :: ds, _, _, n, r => by
    cases r with
    | cons r1 r2 =>
      unfold nks at n
      cases e1 : nk d with
      | none => rw [e1] at n; cases n
      | some k =>
        cases e2 : nks ds with
        | none => rw [e1, e2] at n; cases n
        | some ks => rw [nk_reads d _ _ (by rw [e1]; rfl) r1, nks_reads ds _ _ (by rw [e2]; rfl) r2]; rfl
end
theorem each_map2 {α β : Type} {R R' : α → β → Prop} : ∀ {as : List α} {bs : List β}, W.EachIs R as bs → (∀ a b, b ∈ bs → R a b → R' a b) → W.EachIs R' as bs
  | _, _, .nil, _ => .nil
  | _, _, .cons h t, f => .cons (f _ _ List.mem_cons_self h) (each_map2 t fun a b m => f a b (List.mem_cons_of_mem _ m))
section
variable {X : Cx} {τ : Tn} {S : Addr → Prop} {H : Hp} {pins : List (Addr × Obj)} {σ : L2.St} {s : Shared}
/-- what is gathered stands for the data ds, in the heap ahead -/
abbrev Gath (X : Cx) (S : Addr → Prop) (H : Hp) (s : Shared) (r : List PyData) (out : List Value) (s1 : Shared) : Prop :=
  (∀ b u, s.heap.get? b = some u → s1.heap.get? b = some u) ∧ s1.gens = s.gens ∧ s1.os = s.os ∧ ∃ (vs : List V) (ds : List PyData), Vals vs out ∧ Drs X.K S H vs ds ∧ sortable ds = true ∧ (∀ d ∈ ds, (nk d).isSome = true) ∧ sortD ds = r
theorem sort_inv (g : Gd X) {x : Value} {r : List PyData} {Q : VK} (I : Inv X pins σ H s) (hS : ∀ a, S a → H a ≠ none) (hc : ∀ Q' : List Value → Shared → Prop, (∀ out s1, Gath X S H s r out s1 → Q' out s1) → wpAny (model X.prog X.w) X.A.in1 (collect x) Q' X.xe s)
    (q : ∀ v H', Al H H' → Dr X.K S H' v (.list r) → Q v H') : wpAny (model X.prog X.w) X.A (call (.builtin "sorted") [x]) (EP X pins σ Q) X.xe s := by
  refine Calls.call_function_entry kind_sorted plain_sorted entry_sorted (args_sorted1 _) ?_
  unfold Builtin.«sorted»
  refine wpAny_bind (m := checkCount "sorted" 1 1 _) (wpAny_pure (wpAny_bind (hc _ ?_)))
  rintro out s1 ⟨k1, g1, o1, vs, ds, rv, hd, hg, hn, rfl⟩
  obtain ⟨h1, h2, h3, h4⟩ := sortable_of hg
  obtain ⟨e1, e2⟩ := each_of I hd rv
  have hlo : out.length = ds.length := by rw [← rv.length, hd.length]
  refine wpAny_bind (wpAny_newList ?_ (by rw [hlo]; exact h1))
  have hoL : (s1.heap.push (seqObj "list" out.toArray 0)).get? s1.heap.objs.size = some (seqObj "list" out.toArray 0) := Heap.get?_push_size _ rfl
  have k2 : ∀ b u, s.heap.get? b = some u → (s1.heap.push (seqObj "list" out.toArray 0)).get? b = some u := fun b u e => Heap.get?_push_of_some _ (k1 b u e)
  have e3 : W.EachIs (fun v d => ∃ as, Reads (s1.heap.push (seqObj "list" out.toArray 0)) v (id d) as ∧ s1.heap.objs.size ∉ as) out ds := each_map2 e2 fun v d m ⟨as, r⟩ => by
    have := nk_reads d v as (hn d m) r
    subst this
    exact ⟨[], PyProof.Rows.Reads.keeps k2 r, by simp⟩
  have hu := g.un
  refine wpAny_bind (wpAny_holding (W.list_sort_data (s := { s1 with heap := s1.heap.push (seqObj "list" out.toArray 0) }) (enc := id) (bs := ds) hoL e1 e3 (by rw [List.map_id]; exact h2) (by rw [List.map_id]; exact h4) h1 (fun d hd => by
    have := h3 d hd
    show X.A.in1.units + 1 + d.depth < cLine
    simp only [Around.in1_units]
    omega) fun ws h5 h6 => ?_))
  obtain ⟨c, hp⟩ := sortedHeap_at (vs := out) (out := ws.toArray) hoL
  rw [merge_eq hg] at h6
  obtain ⟨us, ru, du⟩ := of_each h6
  refine wpAny_pure ⟨_, rfl, ?_⟩
  obtain ⟨sh, sg, sdr, stk, sos⟩ := s1
  dsimp only at o1 g1 k1 k2 hoL hp ⊢
  subst o1 g1
  have J : Inv X pins σ H { s with heap := sh, gens := s.gens, drawn := sdr, toks := stk } := I.call (ch := []) (Un.kept k1) (I.hok.kept k1) I.bare (fun _ z => nomatch z)
  have k3 : ∀ b u, sh.get? b = some u → (sortedHeap (sh.push (seqObj "list" out.toArray 0)) sh.objs.size out ws.toArray).get? b = some u := fun b u e => by
    have hlt := Heap.lt_size e
    rw [sortedHeap_old (Nat.ne_of_lt hlt) (by rw [size_push']; exact Nat.lt_succ_of_lt hlt)]
    exact Heap.get?_push_of_some _ e
  have n : H sh.objs.size = none := J.hok.fresh (Nat.le_refl _)
  have hlen : us.length ≤ sizeLine := by rw [ru.length, h5]; exact h1
  exact ⟨.ref sh.objs.size, _, J.laid (a := sh.objs.size) (o := .lst us) (t' := stk) k3 (Nat.le_refl _) ⟨hlen, ws, c, ru, hp⟩, rfl, q _ _ (Al.new n) (Dr.newL hS n du)⟩

/-! ### dicts -/
theorem src_dict {P : Program} {w : World} {d : Addr} {es : Array DictEntry} {ep : Nat} (lo : (d == sysModules) = false) : W.KdlSrc P w "dict" d d es.size (fun i v => ∃ hi : i < es.size, v = es[i].key) (fun h => h.DictRaw d es ep) where
  type := fun _ hm => hm.typeIs
  there := fun _ hm => by
    obtain ⟨o, ho, _⟩ := hm
    exact ⟨Heap.lt_size ho, Heap.lt_size ho⟩
  keep := fun _ _ hm hk => hm.at fun o e => hk d (.inl rfl) o e
  notList := by decide
  notTuple := by decide
  hint := fun _ _ _ _ hm hq => W.kdl_hint_dict hm.typeIs hq
  iter := fun _ s hh hm => ⟨_, _, (fun _ _ hq => wpAny_pyIter_dict_raw lo hm hq), Walks.rawKeys hh _ d (by
    obtain ⟨o, ho, _⟩ := hm
    exact Nat.ne_of_lt (Heap.lt_size ho)) es ep, ⟨⟨_, Heap.get?_push_size _ rfl, rfl, rfl⟩, hm.at fun o e => Heap.get?_push_of_some _ e⟩⟩
/-- the keys, as the dict has them -/
theorem DTr.keysAt {kvs : List (NestedKey × PyData)} {l : Addr} (I : Inv X pins σ H s) (hm : DTr X.prog X.w X.K S H l kvs) : ∃ (es : Array DictEntry) (ep : Nat) (vs : List V), s.heap.DictRaw l es ep ∧ (l == sysModules) = false ∧ es.size = kvs.length ∧ es.size ≤ sizeLine ∧
    Vals vs (es.toList.map (·.key)) ∧ Drs X.K S H vs (kvs.map fun p => p.1.data) := by
  obtain ⟨o, es, ep, xs, e, r1, r2, r3, r4, r5, r6, pr⟩ := hm
  have ho : s.heap.get? l = some o := (I.hok l _ e).1
  have hz : es.size = xs.length := by
    have := congrArg List.length r4
    simpa using this
  refine ⟨es, ep, xs.map fun x => V.ref x.2.1, ⟨o, ho, r2, r3⟩, r1, ?_, ?_, ?_, ?_⟩
  · rw [hz]; exact (Paired.length pr).symm
  · rw [hz]; exact r6
  · rw [r4]
    clear r4 hz pr r5 r6 r3 e ho
    induction xs with
    | nil => exact .nil
    | cons x xs ih => exact .cons rfl ih
  · clear r4 hz r5 r6 r3 e ho
    induction pr with
    | nil => exact .nil
    | cons h t ih =>
      obtain ⟨a1, a2, a3, _⟩ := h
      exact .cons (by dsimp only; rw [a1]; exact a3) ih
theorem items_map {es : Array DictEntry} {acc : Array Value} (h : ItemsOf (fun i v => ∃ hi : i < es.size, v = es[i].key) acc es.size) : acc.toList = es.toList.map (·.key) := by
  obtain ⟨h1, h2⟩ := h
  apply List.ext_getElem?
  intro i
  rw [List.getElem?_map, Array.getElem?_toList, Array.getElem?_toList]
  by_cases hi : i < es.size
  · have hi' : i < acc.size := by rw [h1]; exact hi
    obtain ⟨_, e⟩ := h2 i _ (Array.getElem?_eq_getElem hi')
    rw [Array.getElem?_eq_getElem hi', Array.getElem?_eq_getElem hi, e]
    rfl
  · rw [Array.getElem?_eq_none (by omega), Array.getElem?_eq_none (by omega)]
    rfl
theorem key_nk (k : NestedKey) : (nk k.data).isSome = true := by
  have key : ∀ k : NestedKey, nk k.data = some k := fun k => NestedKey.rec (motive_1 := fun k => nk k.data = some k) (motive_2 := fun ks => nks (NestedKey.datas ks) = some ks) rfl (fun _ => rfl) (fun _ => rfl) (fun ks ih => by
    show (nks (NestedKey.datas ks)).map NestedKey.tup = _
    rw [ih]
    rfl) rfl (fun k ks h1 h2 => by
    show nks (k.data :: NestedKey.datas ks) = _
    unfold nks
    rw [h1, h2]) k
  rw [key k]
  rfl
theorem sorted_dT (g : Gd X) {l : Addr} {kvs : List (NestedKey × PyData)} {Q : VK} (I : Inv X pins σ H s) (hS : ∀ a, S a → H a ≠ none) (hm : DTr X.prog X.w X.K S H l kvs) (hg : sortable (kvs.map fun p => p.1.data) = true)
    (q : ∀ v H', Al H H' → Dr X.K S H' v (.list (sortD (kvs.map fun p => p.1.data))) → Q v H') : wpAny (model X.prog X.w) X.A (call (.builtin "sorted") [.ref l]) (EP X pins σ Q) X.xe s := by
  obtain ⟨es, ep, vs, hr, lo, hz, hl, rv, hd⟩ := hm.keysAt I
  refine sort_inv g I hS (fun Q' hq => W.kdu_collect (src_dict lo) (by simp [I.ok.hd g.calm]) hr hl fun h' tk acc hk ha => hq _ _ ⟨hk, rfl, rfl, vs, _, by rw [items_map ha]; exact rv, hd, hg, fun d m => ?_, rfl⟩) q
  obtain ⟨p, _, rfl⟩ := List.mem_map.mp m
  exact key_nk _
end
end BK
set_option Elab.async false
set_option linter.all false
set_option maxRecDepth 100000
set_option maxHeartbeats 4000000
/-! sorted(set(x)). -/
namespace BK
open PySem PySem.Spec PyProof.Rows L2
theorem mem_onceK (x : NestedKey) : ∀ l : List NestedKey, x ∈ onceK l ↔ x ∈ l
  | [] => Iff.rfl
  | y :: l => by
    unfold onceK
    split
    · rename_i h
      rw [mem_onceK x l, List.mem_cons]
      exact ⟨.inr, fun z => z.elim (fun e => by rw [e]; exact h) id⟩
    · rw [List.mem_cons, List.mem_cons, mem_onceK x l]
theorem nodup_onceK : ∀ l : List NestedKey, (onceK l).Nodup
  | [] => List.nodup_nil
  | y :: l => by
    unfold onceK
    split
    · exact nodup_onceK l
    · rename_i h
      exact List.nodup_cons.mpr ⟨fun z => h ((mem_onceK y l).mp z), nodup_onceK l⟩
theorem perm_lift {α β : Type} {f : α → β} {out : List β} {L : List α} (h : out.Perm (L.map f)) : ∃ L' : List α, L'.Perm L ∧ out = L'.map f := by
  generalize hm : L.map f = m at h
  induction h generalizing L with
  | nil => exact ⟨[], by rw [List.map_eq_nil_iff.mp hm], rfl⟩
  | @cons x l₁ l₂ _ ih =>
    obtain ⟨y, L1, rfl, rfl, rfl⟩ := List.map_eq_cons_iff.mp hm
    obtain ⟨L', p, e⟩ := ih rfl
    exact ⟨y :: L', p.cons y, by rw [List.map_cons, e]⟩
  | swap x y l =>
    obtain ⟨a, L1, rfl, rfl, e⟩ := List.map_eq_cons_iff.mp hm
    obtain ⟨b, L2, rfl, rfl, rfl⟩ := List.map_eq_cons_iff.mp e
    exact ⟨b :: a :: L2, List.Perm.swap a b L2, rfl⟩
  | trans _ _ ih1 ih2 =>
    obtain ⟨L1, p1, e1⟩ := ih2 hm
    obtain ⟨L2, p2, e2⟩ := ih1 e1.symm
    exact ⟨L2, p2.trans p1, e2⟩

/-! ### the set as an object -/
def SetN0 (w : World) (h : Heap) (a : Addr) (L : List (Addr × NestedKey)) : Prop := ∃ (es : Array (Int × Value)) (ep : Nat) (t : SetTable), (∃ u, h.get? a = some u ∧ u.ExactSet ∧ u.data = .set es ep t) ∧ es.toList = L.map (rw1 w) ∧ TabOk t (L.map fun p => hs w p.2) ∧
  (w.params.followText "set-order" = true ∨ t.led = true) ∧ L.length * 5 < t.mask * 3 ∧ L.length < 64
def SetNO (w : World) (a : Addr) (L : List (Addr × NestedKey)) : HO := .ext fun h => SetN0 w h a L
section
variable {X : Cx} {τ : Tn} {B : Addr → Prop} {E : XK} {md : Bool} {pos : Pos}
theorem keys_refs {pins : List (Addr × Obj)} {σ : L2.St} {s : Shared} {H : Hp} {S : Addr → Prop} (I : Inv X pins σ H s) : ∀ {ds : List PyData} {vs : List V} {us : List Value} {ks : List NestedKey}, keysL ds = some ks → Drs X.K S H vs ds → Vals vs us →
    ∃ L : List (Addr × NestedKey), us = L.map (fun p => Value.ref p.1) ∧ L.map (·.2) = ks ∧ ∀ p ∈ L, Kt X.prog X.w s.heap p.2 p.1 ∧ Dr X.K S H (.ref p.1) p.2.data
  | [], _, _, _, e, .nil, .nil => by cases e; exact ⟨[], rfl, rfl, fun p h => by cases h⟩
  | d :: ds, _, _, _, e, .cons h1 h2, .cons r1 r2 => by
    unfold keysL at e
    split at e
    · rename_i k r e1 e2
      cases e
      obtain ⟨L, q1, q2, q3⟩ := keys_refs I e2 h2 r2
      obtain ⟨⟨xs, rfl⟩, n1, n2⟩ := nkey_of e1
      have hr := nested_of I _ k _ _ n1 h1 r1
      have hd := nk_data _ _ n1
      cases h1 with
      | tup hh hdd =>
        rename_i b ys
        cases r1
        refine ⟨(b, k) :: L, by rw [q1]; rfl, by rw [List.map_cons, q2], fun p hp => ?_⟩
        rcases List.mem_cons.mp hp with rfl | hp
        · exact ⟨⟨hr, n2⟩, by dsimp only; rw [hd]; exact .tup hh hdd⟩
        · exact q3 p hp
    · cases e
def rSetK (X : Cx) (S : Addr → Prop) : List V → Hp → VK → Prop := fun xs H Q => ∃ (l : Addr) (vs : List V) (ds : List PyData) (ks : List NestedKey), xs = [.ref l] ∧ (SqL X.K H l vs ∨ SqT X.K H l vs) ∧ Drs X.K S H vs ds ∧ keysL ds = some ks ∧ ds.length < 64 ∧
  ∀ a L, H a = none → (∀ p ∈ L, Dr X.K S H (.ref p.1) p.2.data ∧ p.2.depth ≤ 8) → (∀ k, k ∈ L.map (·.2) ↔ k ∈ ks) → (L.map (·.2)).Nodup → L.length < 64 → Q (.ref a) (upd H a (SetNO X.w a L))
theorem keysL_len : ∀ {ds : List PyData} {ks : List NestedKey}, keysL ds = some ks → ks.length = ds.length
  | [], _, e => by cases e; rfl
  | d :: ds, _, e => by
    unfold keysL at e
    split at e
    · rename_i k r e1 e2
      cases e
      rw [List.length_cons, List.length_cons, keysL_len e2]
    · cases e
theorem cr_setK (g : Gd X) (S : Addr → Prop) : CallR X (.type "set") (rSetK X S) := by
  intro pins s σ H xs us Q I r ⟨l, vs, ds, ks, e, hsq, hd, hk, hl, q⟩
  subst e
  rw [Vals.ref1 r]
  have hu := g.un
  have fin : ∀ its : List Value, Vals vs its → (s.heap.IsList l its.toArray ∨ s.heap.IsTuple l its.toArray) → wpAny (model X.prog X.w) X.A (call (.type "set") [.ref l]) (EP X pins σ Q) X.xe s := by
    intro its rv hh
    obtain ⟨L0, q1, q2, q3⟩ := keys_refs I hk hd rv
    have hlen : L0.length < 64 := by rw [← List.length_map (f := fun p => p.2), q2, keysL_len hk]; exact hl
    refine call_setK (P := X.prog) (w := X.w) L0 (I.ok.hd g.calm) hh (by simpa using q1) (fun p hp => (q3 p hp).1) hlen (by omega) fun h' tk L es ep t Z had k => ?_
    have hn : H s.heap.objs.size = none := I.hok.fresh (Nat.le_refl _)
    have hin : ∀ p ∈ L, p ∈ L0 := fun p hp => List.mem_of_mem_take (had.inn p hp)
    have hobj : SetN0 X.w h' s.heap.objs.size L := ⟨es, ep, t, Z.ob, Z.row, Z.tab, Z.led, Z.gap, Z.few⟩
    refine ⟨.ref s.heap.objs.size, upd H s.heap.objs.size (SetNO X.w s.heap.objs.size L), I.laid (t' := tk) k (Nat.le_refl _) ⟨hobj, ?_, fun h1 h2 p kk => ?_⟩, rfl, q _ L hn (fun p hp => ⟨(q3 p (hin p hp)).2, (q3 p (hin p hp)).1.2⟩) (fun k => ?_) Z.one Z.few⟩
    · obtain ⟨u, hu, _⟩ := Z.ob
      exact ⟨u, hu⟩
    · obtain ⟨es', ep', t', ⟨u, hu, r1⟩, r2⟩ := p
      exact ⟨es', ep', t', ⟨u, kk u hu, r1⟩, r2⟩
    · rw [← q2]
      constructor
      · intro hm
        obtain ⟨p, hp, rfl⟩ := List.mem_map.mp hm
        exact List.mem_map.mpr ⟨p, hin p hp, rfl⟩
      · intro hm
        obtain ⟨p, hp, rfl⟩ := List.mem_map.mp hm
        exact had.all p (by rw [List.take_length]; exact hp)
  rcases hsq with hsq | hsq
  · obtain ⟨its, rv, pl, hz⟩ := I.list hsq
    exact fin its rv (.inl pl.isList)
  · obtain ⟨its, rv, pl, hz⟩ := I.tuple hsq
    exact fin its rv (.inr pl)
def rSortK (X : Cx) (S : Addr → Prop) : List V → Hp → VK → Prop := fun xs H Q => ∃ (a : Addr) (L : List (Addr × NestedKey)) (r : List PyData), xs = [.ref a] ∧ H a = some (SetNO X.w a L) ∧ (∀ b, S b → H b ≠ none) ∧ (∀ p ∈ L, Dr X.K S H (.ref p.1) p.2.data ∧ p.2.depth ≤ 8) ∧
  (∀ L' : List (Addr × NestedKey), L'.Perm L → sortable (L'.map fun p => p.2.data) = true ∧ sortD (L'.map fun p => p.2.data) = r) ∧ ∀ v H', Al H H' → Dr X.K S H' v (.list r) → Q v H'
theorem cr_sortK (g : Gd X) (S : Addr → Prop) : CallR X (.builtin "sorted") (rSortK X S) := by
  intro pins s σ H xs us Q I rr ⟨a, L, r, e, hH, hS, hk, hp, q⟩
  subst e
  rw [Vals.ref1 rr]
  obtain ⟨es, ep, t, ⟨u, ho, hex, hd⟩, row, tab, led, gap, few⟩ := (I.hok a _ hH).1
  have hz := rows_len row
  have hsz := tab.sz
  rw [List.length_map] at hsz
  refine sort_inv g I hS (fun Q' hq => ?_) q
  refine collect_set (A := X.A.in1) (by simp [I.ok.hd g.calm]) ⟨u, ho, hex.1, hd⟩ (tfits_of (hsz.trans hz.symm) tab.dm (by omega)) (by unfold scanBound; omega) tab.ris led fun s1 out k1 _ g1 o1 pm => ?_
  rw [row, List.map_map] at pm
  obtain ⟨L', pl, rfl⟩ := perm_lift (f := fun p : Addr × NestedKey => Value.ref p.1) pm
  obtain ⟨p1, p2⟩ := hp L' pl
  have hk' : ∀ p ∈ L', Dr X.K S H (.ref p.1) p.2.data := fun p hp => (hk p (pl.mem_iff.mp hp)).1
  refine hq _ _ ⟨k1, g1, o1, L'.map (fun p => V.ref p.1), L'.map (fun p => p.2.data), ?_, ?_, p1, fun d m => ?_, p2⟩
  · clear hk' p1 p2 pm pl
    induction L' with
    | nil => exact .nil
    | cons p L' ih => exact .cons rfl ih
  · clear p1 p2 pm pl
    induction L' with
    | nil => exact .nil
    | cons p L' ih => exact .cons (hk' p List.mem_cons_self) (ih fun p hp => hk' p (List.mem_cons_of_mem _ hp))
  · obtain ⟨p, _, rfl⟩ := List.mem_map.mp m
    exact key_nk _
theorem keysL_data : ∀ {ds : List PyData} {ks : List NestedKey}, keysL ds = some ks → ∀ k ∈ ks, k.data ∈ ds
  | [], _, e, k, hk => by cases e; cases hk
  | d :: ds, _, e, k, hk => by
    unfold keysL at e
    split at e
    · rename_i k0 r e1 e2
      cases e
      rcases List.mem_cons.mp hk with rfl | hk
      · rw [nk_data _ _ (nkey_of e1).2.1]; exact List.mem_cons_self
      · exact List.mem_cons_of_mem _ (keysL_data e2 k hk)
    · cases e
theorem sortable_sub {ds es : List PyData} (h : sortable ds = true) (hs : ∀ d ∈ es, d ∈ ds) (hl : es.length ≤ sizeLine) : sortable es = true := by
  unfold sortable fits at *
  simp only [Bool.and_eq_true, decide_eq_true_eq, List.all_eq_true, Bool.or_eq_true] at *
  obtain ⟨⟨⟨⟨h1, h2⟩, h3⟩, h4⟩, h5⟩ := h
  refine ⟨⟨⟨⟨hl, fun a ha b hb => h2 a (hs a ha) b (hs b hb)⟩, fun d hd => h3 d (hs d hd)⟩, ?_⟩, fun d hd => h5 d (hs d hd)⟩
  exact h4.imp (fun h d hd => h d (hs d hd)) fun h d hd => h d (hs d hd)
theorem sn_ssort {e : Expr} {p p2 q : Pos} {m : Env → M D} (g : Gd X) (hg : Gl X "sorted") (hm : X.mg "sorted" = none) (hg2 : Gl X "set") (hm2 : X.mg "set" = none) (h : PE X e (tD (arOf X τ B E) false m)) (ns : starred e = false) :
    PE X (.Call (.Name "sorted" p) [.Call (.Name "set" p2) [e] [] q] [] pos) (tD (arOf X τ B E) md fun env => do let x ← m env; let r ← M.of (opSet x); M.ret (lst r)) := by
  refine ⟨fun pins z σ H Q I ⟨env, s, R, t, h0⟩ => ?_⟩
  have h1 := pe_callTy (pos := q) (p := p2) (cr_setK g (Av B env σ)) hg2 hm2 (by decide +kernel) (sn_one h ns) (by decide) (by decide) (star1 ns) rfl
  refine (pe_callB (cr_sortK g (Av B env σ)) hg hm (by decide +kernel) (pa_cons h1 pa_nil rfl) (by decide) (by decide) rfl rfl).run pins z σ H Q I ?_
  refine ⟨env, s, R, t, h0.bnd.imp fun x s1 H1 e1 t1 h1 v dv => ?_⟩
  obtain ⟨r, er, h2⟩ := h1.bnd.of
  have R1 := R.xt t e1
  obtain ⟨xs, vs, l, rfl, hsq, hd, er⟩ : ∃ (xs : List PyData) (vs : List V) (l : Addr), v = .ref l ∧ (SqL X.K H1 l vs ∨ SqT X.K H1 l vs) ∧ Drs X.K (Av B env σ) H1 vs xs ∧ setSort xs = some r := by
    unfold opSet at er
    split at er
    · obtain ⟨l, vs, ev, hp, hd⟩ := dv.i.lst
      exact ⟨_, vs, l, ev, .inl (SqL.of hp), hd, er⟩
    · obtain ⟨l, vs, ev, hp, hd⟩ := dv.i.tup
      exact ⟨_, vs, l, ev, .inr hp, hd, er⟩
    · cases er
  unfold setSort at er
  obtain ⟨hc, er⟩ := Option.ite_none_right_eq_some.mp er
  simp only [Bool.and_eq_true, decide_eq_true_eq] at hc
  obtain ⟨hso, hl⟩ := hc
  simp only [Option.map_eq_some_iff] at er
  obtain ⟨ks, hks, rfl⟩ := er
  refine ⟨l, vs, xs, ks, rfl, hsq, hd, hks, hl, fun a L na hL hmem hnd hfew => ?_⟩
  have al := Al.new (o := SetNO X.w a L) na
  refine ⟨a, L, sortD ((onceK ks).map (·.data)), rfl, upd_same, fun b hb => ?_, fun p hp => ⟨al.dr (hL p hp).1, (hL p hp).2⟩, fun L' pl => ?_, fun v' H' a2 dv' => ?_⟩
  · have := R1.sdom b hb
    rw [upd_ne (fun z => this (by rw [z]; exact na))]
    exact this
  · have hsub : ∀ d ∈ L'.map fun p => p.2.data, d ∈ xs := fun d hd' => by
      obtain ⟨p, hp, rfl⟩ := List.mem_map.mp hd'
      exact keysL_data hks _ ((hmem _).mp (List.mem_map.mpr ⟨p, pl.mem_iff.mp hp, rfl⟩))
    have hso' : sortable (L'.map fun p => p.2.data) = true := sortable_sub hso hsub (by rw [List.length_map, pl.length_eq, sizeLine_eq]; omega)
    refine ⟨hso', sort_uniq ?_ (fun x hx y hy => ?_) fun d hd' => ?_⟩
    · have e1 : (L'.map fun p => p.2.data) = (L'.map (·.2)).map (·.data) := by rw [List.map_map]; rfl
      rw [e1]
      refine List.Perm.map _ ((List.perm_ext_iff_of_nodup ((pl.map (·.2)).nodup_iff.mpr hnd) (nodup_onceK ks)).mpr fun k => ?_)
      rw [mem_onceK, (pl.map (·.2)).mem_iff]
      exact hmem k
    · unfold sortable at hso'
      simp only [Bool.and_eq_true, List.all_eq_true] at hso'
      exact hso'.1.1.1.2 x hx y hy
    · obtain ⟨p, _, rfl⟩ := List.mem_map.mp hd'
      exact key_nk _
  · have a3 := al.trans a2
    exact h2 H1 (Xt.refl H1) t1 H' a3.xt (a3.town t1) v' (Dv.weak (d := .dat _) dv')
end
end BK
set_option Elab.async false
set_option linter.all false
set_option maxRecDepth 100000
set_option maxHeartbeats 4000000
/-! t[::-1]; list(enumerate(t)); loops over enumerate(t), over a dict's keys. -/
namespace BK
open PySem PySem.Spec PyProof.Rows L2
/-! ### t[::-1] -/
theorem rev_adj (n : Int) : Builtin.Slice.sliceAdjust none none (-1) n = (n - 1, -1) := by
  unfold Builtin.Slice.sliceAdjust
  simp
theorem rev_places (n : Nat) : Builtin.Slice.slicePlaces ((n : Int) - 1) (-1) (-1) = n := by
  unfold Builtin.Slice.slicePlaces
  simp only [show ¬ ((-1 : Int) > 0) by omega, if_false]
  split <;> simp <;> omega
theorem rev_pick (xs : Array Value) : ((List.range xs.size).filterMap fun (k : Nat) => xs[(((xs.size : Int) - 1) + (k : Int) * -1).toNat]?).toArray = xs.toList.reverse.toArray := by
  have key : ∀ k, k ≤ xs.size → ((List.range k).filterMap fun (k : Nat) => xs[(((xs.size : Int) - 1) + (k : Int) * -1).toNat]?) = (xs.toList.drop (xs.size - k)).reverse := by
    intro k
    induction k with
    | zero => intro _; simp
    | succ k ih =>
      intro hk
      rw [List.range_succ, List.filterMap_append, ih (by omega)]
      have e : (((xs.size : Int) - 1) + (k : Int) * -1).toNat = xs.size - (k + 1) := by omega
      have hlt : xs.size - (k + 1) < xs.toList.length := by rw [Array.length_toList]; omega
      have e2 : xs[xs.size - (k + 1)]? = some (xs.toList[xs.size - (k + 1)]) := by rw [← Array.getElem?_toList]; exact List.getElem?_eq_getElem hlt
      rw [List.drop_eq_getElem_cons hlt, List.reverse_cons, show xs.size - (k + 1) + 1 = xs.size - k by omega]
      congr 1
      rw [List.filterMap_cons_some (b := xs.toList[xs.size - (k + 1)]) (by rw [e]; exact e2)]
      rfl
  rw [key xs.size (Nat.le_refl _), Nat.sub_self, List.drop_zero]
section
variable {P : Program} {w : World} {A : Around} {E : Value → Shared → Prop} {s : Shared}
theorem rev_item {t sl : Addr} {items : Array Value} {vl vu vs : Value} {Q : Value → Shared → Prop} (ht : IsTup s.heap t items) (hs : s.heap.IsSliceOf sl vl vu vs) (pl : IsPart vl none) (pu : IsPart vu none) (ps : IsPart vs (some (-1))) (hz : items.size ≤ sizeLine)
    (q : Q (.ref s.heap.objs.size) { s with heap := s.heap.push { cls := .type "tuple", data := .seq items.toList.reverse.toArray } }) : wpAny (model P w) A (getItem (.ref t) (.ref sl)) Q E s := by
  obtain ⟨os, hos, hcs, hds⟩ := id hs
  have hty : s.TypeIs (.ref sl) "slice" := ⟨os, hos, hcs⟩
  unfold getItem
  try with_reducible refine wpAny_holding ?_
  first | refine wpAny_bind (wpAny_pure ?_) | skip
  refine wpAny_bind (wpAny_sequenceKey ht.typeIs (by decide) ?_)
  refine wpAny_bind (wpAny_callSpecial?_slot (name := Str.ofString "__getitem__") ht.typeIs PyProof.Rows.slot_tuple_getitem (wpAny_call_entry PyProof.Rows.slot_tuple_getitem ht.typeIs entry_tuple_getitem ?_ (args_tuple_getitem _ _)))
  show wpAny _ _ (Builtin.Tuple.tupleItemsOf (.ref t) >>= _) _ _ s
  refine wpAny_bind (tupleItemsOf_ ht ?_)
  refine wpAny_bind (wpAny_typeOf hty ?_)
  rw [if_pos (by decide)]
  refine wpAny_bind ?_
  unfold Builtin.Slice.sliceApplied Builtin.Slice.sliceFields
  refine wpAny_bind (wpAny_bind (wpAny_field hos hds (x := vl) rfl (wpAny_bind (wpAny_field hos hds (x := vu) rfl (wpAny_bind (wpAny_field hos hds (x := vs) rfl (wpAny_pure ?_)))))))
  refine wpAny_bind (HT.slicePart_ ps ?_)
  rw [if_neg (by decide)]
  try refine wpAny_bind (wpAny_pure ?_)
  refine wpAny_bind (HT.slicePart_ pl (wpAny_bind (HT.slicePart_ pu (wpAny_bind (wpAny_pure ?_)))))
  show wpAny _ _ (match Builtin.Slice.sliceAdjust none none (-1) ((items.size : Nat) : Int) with | (lo, hi) => pure (lo, (-1 : Int), Builtin.Slice.slicePlaces lo hi (-1))) _ _ s
  rw [rev_adj]
  show wpAny _ _ (pure (((items.size : Int) - 1), (-1 : Int), Builtin.Slice.slicePlaces ((items.size : Int) - 1) (-1) (-1))) _ _ s
  rw [rev_places]
  refine wpAny_pure ?_
  show wpAny _ _ (if (((items.size : Int) - 1 == 0) && ((-1 : Int) == 1) && (items.size == items.size)) = true then _ else _) _ _ s
  rw [if_neg (by simp), rev_pick]
  have hsz : sizeOk (.seq items.toList.reverse.toArray) := by
    show items.toList.reverse.toArray.size ≤ sizeLine
    rw [List.size_toArray, List.length_reverse, Array.length_toList]
    exact hz
  first
    | exact wpAny_bind (m := Builtin.Tuple.tupleExact _) (wpAny_newObj_type (wpAny_pure ⟨_, rfl, wpAny_pure q⟩) hsz)
    | exact wpAny_bind (m := Builtin.Tuple.tupleExact _) (wpAny_newObj_type (wpAny_bind (wpAny_pure (wpAny_pure ⟨_, rfl, wpAny_pure q⟩))) hsz)
    | exact wpAny_bind (wpAny_bind (m := Builtin.Tuple.tupleExact _) (wpAny_newObj_type (wpAny_pure (wpAny_pure ⟨_, rfl, wpAny_pure q⟩)) hsz))
    | exact wpAny_bind (wpAny_bind (m := Builtin.Tuple.tupleExact _) (wpAny_newObj_type (wpAny_pure ⟨_, rfl, wpAny_pure q⟩) hsz))
end
section
variable {X : Cx} {τ : Tn} {B : Addr → Prop} {E : XK} {md : Bool} {pos : Pos}
def tRevT (K : PySem.W.Frag) (te : TE) : TE := fun σ H Q => te σ H fun x H1 => ∃ a xs, x = .ref a ∧ SqT K H1 a xs ∧ ∀ p, H1 p = none → Q (.ref p) (upd H1 p (.tup xs.reverse))
theorem pe_revT {e : Expr} {te : TE} {k : Nat} {p1 p2 p3 pos : Pos} (he : PE X e te) : PE X (.Subscript e (.Slice none none (some (.UnaryOp .USub (.Constant (.int 1) k p1) p2)) p3) pos) (tRevT X.K te) := by
  refine ⟨fun pins s σ H Q I h => ?_⟩
  refine Subscript_ (thn (he.run pins s σ H _ I h) fun v s1 ⟨x, H1, I1, r1, q1⟩ => ?_)
  obtain ⟨a, xs, ex, hx, q⟩ := q1
  subst ex
  cases r1
  have hm : PO X (some (.UnaryOp .USub (.Constant (.int 1) k p1) p2)) (tPart (tUn (rU fun i => .int (-i)) (tC (.int 1)))) := po_some (pe_un un_neg pe_int)
  refine wpAny_Slice (thn (po_none.run pins s1 σ H1 (fun o H2 => o = none ∧ H2 = H1) I1 ⟨rfl, rfl⟩) fun vl s2 hv2 => ?_)
  obtain ⟨l, H2, I2, pl, rfl, rfl⟩ := hv2
  refine thn (po_none.run pins s2 σ H2 (fun o H3 => o = none ∧ H3 = H2) I2 ⟨rfl, rfl⟩) fun vu s3 hv3 => ?_
  obtain ⟨u, H3, I3, pu, rfl, rfl⟩ := hv3
  refine thn (hm.run pins s3 σ H3 (fun o H4 => o = some (-1) ∧ H4 = H3) I3 ⟨1, rfl, -1, rfl, rfl, rfl⟩) fun vs s4 hv4 => ?_
  obtain ⟨o, H4, I4, ps, rfl, rfl⟩ := hv4
  have I5 : Inv X pins σ H4 { s4 with heap := s4.heap.push { cls := .type "slice", data := .fields #[vl, vu, vs] } } := I4.kept (t' := s4.toks) fun b ob g => Heap.get?_push_of_some _ g
  obtain ⟨its, r, ht, hz⟩ := I5.tuple hx
  show wpAny (model X.prog X.w) X.A (subscriptTail e (.Slice none none (some (.UnaryOp .USub (.Constant (.int 1) k p1) p2)) p3) (.ref a) (.ref s4.heap.objs.size)) (EP X pins σ Q) X.xe { s4 with heap := s4.heap.push { cls := .type "slice", data := .fields #[vl, vu, vs] } }
  refine tail_any (ops := [.ref a, .ref s4.heap.objs.size]) ht.typeIs (PyProof.Rows.slot_tuple_getitem.lookup) ?_ (by with_unfolding_all rfl)
  refine rev_item ht (Heap.IsSliceOf.new _ vl vu vs) pl pu ps (by rw [List.size_toArray, ← r.length]; exact hz) ?_
  refine ⟨.ref _, _, I5.laid (t' := s4.toks) (o := .tup xs.reverse) (fun b ob g => Heap.get?_push_of_some _ g) (Nat.le_refl _) ?_, rfl, q _ (I5.hok.fresh (Nat.le_refl _))⟩
  exact ⟨by rw [List.length_reverse]; exact hz, _, r.reverse, IsTup.new _ _⟩
theorem sn_slR {e : Expr} {m : Env → M D} {k : Nat} {p1 p2 p3 : Pos} (h : PE X e (tD (arOf X τ B E) false m)) :
    PE X (.Subscript e (.Slice none none (some (.UnaryOp .USub (.Constant (.int 1) k p1) p2)) p3) pos) (tD (arOf X τ B E) md fun env => do let x ← m env; M.of (opRev x)) := by
  refine (pe_revT h).imp fun σ H Q ⟨env, s, R, t, h⟩ => ?_
  refine ⟨env, s, R, t, h.bnd.imp fun x s1 H1 e1 t1 h1 v dv => ?_⟩
  obtain ⟨d, ed, h2⟩ := h1.of
  unfold opRev at ed
  split at ed <;> try (cases ed; done)
  cases ed
  obtain ⟨a, xs, rfl, hp, hd⟩ := dv.i.tup
  exact ⟨a, xs, rfl, hp, fun p np => h2 _ (Al.new np).xt ((Al.new np).town t1) _ (Dv.weak (d := .dat _) (Dr.newT np hd.reverse))⟩
end
end BK
set_option Elab.async false
set_option linter.all false
set_option maxRecDepth 100000
set_option maxHeartbeats 4000000
/-! Loops over enumerate(t) and over a dict's keys; list(enumerate(t)). -/
namespace BK
open PySem PySem.Spec PyProof.Rows L2
/-! ### enumerate(t) -/
theorem enum_end {P : Program} {w : World} {A : Around} {E : Value → Shared → Prop} {s : Shared} {e it l : Addr} {i : Nat} {c : Int} {old : Value} {items : Array Value} {Q : Option Value → Shared → Prop} (he : IsEnum s.heap e it c old) (hit : s.heap.IsTupleIter it l i) (ht : s.heap.IsTuple l items) (hx : items[i]? = none) (hh : A.handled = none)
    (q : ∀ h', Heap.ExtBut it s.heap h' → Q none { s with heap := h' }) : wpAny (model P w) A (pyNext (.ref e)) Q E s := by
  have hty : s.TypeIs (.ref e) "enumerate" := ⟨_, he, rfl⟩
  unfold pyNext
  refine wpAny_bind (wpAny_attempt (wpAny_callSpecial?_slot (name := Str.ofString "__next__") hty F.slot_enumerate_next (wpAny_call_entry F.slot_enumerate_next hty F.entry_enumerate_next ?_ (F.args_enumerate_next_1 _))))
  show wpAny _ _ (field (.ref e) 2 >>= _) _ _ _
  refine wpAny_bind (wpAny_field he rfl (x := .ref it) rfl (wpAny_bind (wpAny_nextOf_tuple_end (by simp [hh]) hit ht hx fun h' x k hx => ?_)))
  obtain ⟨o, ho, hc⟩ := hx
  exact wpAny_bind (wpAny_isInstance (T := "StopIteration") (b := true) ⟨o, ho, hc⟩ isSubtype_stop (wpAny_pure (q _ k)))
def IteT (K : PySem.W.Frag) (a : Addr) : It :=
  ⟨fun i H => ∃ (xs : List V) (x : V), SqT K H a xs ∧ xs[i]? = some x, fun i H v H' => ∃ T x, v = .ref T ∧ H T = none ∧ H' = upd H T (.tup [.int (i : Nat), x]) ∧ ∀ xs, SqT K H a xs → xs[i]? = some x, fun i H => ∃ xs : List V, SqT K H a xs ∧ xs.length ≤ i⟩
theorem turn_enumT {P : Program} {w : World} {K : PySem.W.Frag} {elts : List Expr} {kk : Nat} {tpos : Pos} (a e it : Addr) :
    Turn P w K (.Tuple elts kk tpos) (IteT K a) [e, it] e (fun i h => (∃ old, IsEnum h e it ((i : Nat) : Int) old) ∧ h.IsTupleIter it a i ∧ e ≠ it ∧ a ≠ it ∧ e ≠ a) where
  mem := by simp
  obj := fun i h st b hb => by
    obtain ⟨⟨old, he⟩, ⟨o, ho, hc, hd⟩, _⟩ := st
    have z : b = e ∨ b = it := by simpa using hb
    rcases z with rfl | rfl
    · exact ⟨_, he, fun v q => nomatch q⟩
    · exact ⟨o, ho, fun v q => by rw [hd] at q; cases q⟩
  keep := fun i h h' st k => let ⟨⟨old, he⟩, hi, hne⟩ := st; ⟨⟨old, k e (by simp) _ he⟩, hi.at fun o q => k it (by simp) o q, hne⟩
  item := by
    intro X hP hw hK hc i pins s σ H E I hf st hg
    subst hP hw hK
    obtain ⟨⟨old, he⟩, hit, hne, hai, hea⟩ := st
    obtain ⟨xs, x, hq, hx⟩ := hg
    obtain ⟨its, rv, p, hz⟩ := I.tuple hq
    obtain ⟨u, hu, ru⟩ := rv.get hx
    have hel : e < s.heap.objs.size := Heap.lt_size he
    have hil : it < s.heap.objs.size := by obtain ⟨_, q, _⟩ := hit; exact Heap.lt_size q
    have hlt : i < its.toArray.size := by rw [List.size_toArray]; exact (List.getElem?_eq_some_iff.mp hu).1
    refine wpAny_pyNext_enum_itemD (Draws.tuple (A := X.A.in1) (by simp [I.ok.hd hc]) it a hai its.toArray) he ⟨hit, p⟩ hlt hne (by simp [hne, hea]) fun y h' tk hP ho hst hT hsz hk => ?_
    have hy : y = u := by
      have : its.toArray[i]? = some u := by simpa using hu
      rw [this] at hP
      exact (Option.some.inj hP).symm
    subst hy
    refine ⟨_, rfl, wpAny_letOwnedTupleGo_enum (s := { s with heap := h', toks := tk + 1 }) ho fun h'' he' sb => ?_⟩
    have hT2 : h''.get? s.heap.objs.size = some { cls := .type "tuple", data := .seq #[.int i tk, y] } := (sb.2 _ (Nat.ne_of_gt hel)).trans hT
    have new : ObjOk X.prog X.w (upd H s.heap.objs.size (.tup [.int (i : Nat), x])) h'' s.heap.objs.size (.tup [.int (i : Nat), x]) :=
      ⟨by show 2 ≤ sizeLine; decide, [.int i tk, y], .cons ⟨_, rfl⟩ (.cons ru .nil), ⟨_, hT2, rfl, _, rfl⟩⟩
    have I1 : Inv X pins σ (upd H s.heap.objs.size (.tup [.int (i : Nat), x])) { s with heap := h'', toks := tk + 1 } :=
      I.turnedNew (ch := [e, it]) (fun b ob hb q => (sb.2 b (fun z => hb (by simp [z]))).trans (hk b ob (fun z => hb (by simp [z])) (fun z => hb (by simp [z])) q)) hf (Nat.le_refl _) new
    refine ⟨.ref s.heap.objs.size, _, I1, rfl, ⟨_, x, rfl, I.hok.fresh (Nat.le_refl _), rfl, fun ys hy => by rw [I.tuple_inj hy hq]; exact hx⟩, ⟨⟨y, ?_⟩, hst.1.at fun o q => (sb.2 it (Ne.symm hne)).trans q, hne, hai, hea⟩, fun b hb => ?_⟩
    · have e1 : ((i + 1 : Nat) : Int) = (i : Int) + 1 := by omega
      rw [e1]
      exact he'
    · have hlt : b < s.heap.objs.size := by
        have z : b = e ∨ b = it := by simpa using hb
        rcases z with rfl | rfl
        · exact hel
        · exact hil
      rw [upd_ne (Nat.ne_of_lt hlt)]
      exact (hf b hb).1
  done := by
    intro X hP hw hK hc i pins s σ H E I hf st hg
    subst hP hw hK
    obtain ⟨⟨old, he⟩, hit, hne, hai, hea⟩ := st
    obtain ⟨xs, hq, hx⟩ := hg
    obtain ⟨its, rv, p, hz⟩ := I.tuple hq
    obtain ⟨f0, f1, f2, f3, f4, f5⟩ := hf it (by simp)
    have hl := rv.length
    exact enum_end he hit p (by simp; omega) (I.ok.hd hc) fun h' eb => ⟨rfl, I.turned (t' := s.toks) (fun b o hb q => eb b o hb q) f0 f1 f3 f4 f5⟩
  self := fun A i s Q E st h => let ⟨⟨_, he⟩, _⟩ := st; wpAny_pyIter_enum he h
section
variable {X : Cx} {τ : Tn} {B : Addr → Prop} {E : XK} {md : Bool} {pos : Pos}
def iEnumT (K : PySem.W.Frag) (te : TE) : TI := fun σ H R => te σ H fun v H1 => ∃ a xs, v = .ref a ∧ SqT K H1 a xs ∧ R (IteT K a) H1
theorem pi_enumT {e : Expr} {te : TE} {p tpos : Pos} {elts : List Expr} {kk : Nat} (hg : Gl X "enumerate") (hm : X.mg "enumerate" = none) (h : PE X e te) (ns : starred e = false) :
    PI X (.Tuple elts kk tpos) (.Call (.Name "enumerate" p) [e] [] pos) (iEnumT X.K te) := by
  refine ⟨fun pins s σ H R I hr => ?_⟩
  refine Call_ (ld_blt I hg hm boot_enumerate (PyProof.Rows.callWith_type1 (PyProof.Rows.args_cons (thn (h.run pins s σ H _ I hr) fun u s1 ⟨v, H1, I1, r1, q1⟩ => PyProof.Rows.args_nil ?_) (star1 ns)) (star1 ns) rfl))
  obtain ⟨a, xs, rfl, hq, q⟩ := q1
  cases r1
  obtain ⟨its, rv, p', hz⟩ := I1.tuple hq
  have hal : a < s1.heap.objs.size := by obtain ⟨_, z, _⟩ := p'; exact Heap.lt_size z
  refine enum_call p' fun h' he hit hsz hk => wpAny_pyIter_enum he ?_
  refine ⟨s1.heap.objs.size + 1, [s1.heap.objs.size + 1, s1.heap.objs.size], _, _, H1, rfl, I1.kept (t' := s1.toks) hk, turn_enumT a (s1.heap.objs.size + 1) s1.heap.objs.size, ⟨⟨.none, he⟩, hit, Nat.succ_ne_self _, Nat.ne_of_lt hal, Nat.ne_of_gt (Nat.lt_succ_of_lt hal)⟩, fun b hb => ?_, q⟩
  have z : b = s1.heap.objs.size + 1 ∨ b = s1.heap.objs.size := by simpa using hb
  have hle : s1.heap.objs.size ≤ b := by
    rcases z with z | z
    · rw [z]; exact Nat.le_succ _
    · rw [z]; exact Nat.le_refl _
  exact I1.fpOk hle (I1.hok.fresh hle)
theorem enumFrom_get : ∀ (ds : List PyData) (i k : Nat) (d : PyData), (enumFrom' k ds)[i]? = some d → ∃ x, ds[i]? = some x ∧ d = .tuple [.int ((k + i : Nat) : Int), x]
  | [], _, _, _, h => by simp [enumFrom'] at h
  | y :: ds, 0, k, d, h => by
    simp only [enumFrom', List.getElem?_cons_zero, Option.some.injEq] at h
    exact ⟨y, rfl, h.symm⟩
  | y :: ds, i + 1, k, d, h => by
    simp only [enumFrom', List.getElem?_cons_succ] at h
    obtain ⟨x, e1, e2⟩ := enumFrom_get ds i (k + 1) d h
    exact ⟨x, by simpa using e1, by rw [e2, show k + 1 + i = k + (i + 1) by omega]⟩
theorem enumFrom_len : ∀ (ds : List PyData) (k : Nat), (enumFrom' k ds).length = ds.length
  | [], _ => rfl
  | _ :: ds, k => by simp [enumFrom', enumFrom_len ds (k + 1)]
theorem it_enum {K : PySem.W.Frag} {S R : Addr → Prop} {H : Hp} {a : Addr} {xs : List V} {ds : List PyData} (h : SqT K H a xs) (hd : Drs K S H xs ds) : ItOk K S R H (IteT K a) (enumFrom' 0 ds) := by
  intro S' i H' hS hR ke
  have h' : SqT K H' a xs := ke.sqt h
  refine ⟨fun d hi => ?_, fun hi => ⟨xs, h', by rw [enumFrom_len] at hi; rw [hd.length]; exact hi⟩⟩
  obtain ⟨x, e1, rfl⟩ := enumFrom_get ds i 0 d hi
  obtain ⟨v, g1, r1⟩ := hd.get e1
  refine ⟨⟨xs, v, h', g1⟩, fun w' H'' ⟨T, y, e3, nT, eH, q1⟩ => ?_⟩
  subst e3 eH
  have w1 := q1 xs h'
  rw [g1] at w1
  cases w1
  rw [Nat.zero_add]
  exact ⟨Al.new nT, Dr.newT nT (.cons (.int _) (.cons (ke.dr hR (Dr.shift hS _ _ r1)) .nil))⟩
theorem sn_enum {e : Expr} {elts : List Expr} {kk : Nat} {tp p : Pos} {m : Env → M D} (hg : Gl X "enumerate") (hm : X.mg "enumerate" = none) (h : PE X e (tD (arOf X τ B E) true m)) (ns : starred e = false) :
    PI X (.Tuple elts kk tp) (.Call (.Name "enumerate" p) [e] [] pos) (tI (arOf X τ B E) md fun env => do let x ← m env; enumM x) := by
  refine (show PI X _ _ _ from ⟨fun pins s σ H R I hr => (pi_enumT hg hm h ns).run pins s σ H R I ?_⟩)
  obtain ⟨env, s, Rp, t, h⟩ := hr
  refine ⟨env, s, Rp, t, (Ok.bnd h).imp fun x s1 H1 e1 t1 h1 v dv => ?_⟩
  unfold enumM at h1
  split at h1
  · obtain ⟨a, xs, rfl, q, d⟩ := dv.i.tup
    exact ⟨a, xs, rfl, q, h1.ret H1 (Xt.refl H1) t1 _ (it_enum q d)⟩
  · exact h1.elim

/-! ### the keys of a dict -/
theorem paired_get {α β : Type} {F : α → β → Prop} : ∀ {l₁ : List α} {l₂ : List β} {i : Nat} {a : α} {b : β}, Paired F l₁ l₂ → l₁[i]? = some a → l₂[i]? = some b → F a b
  | _, _, _, _, _, .nil, h, _ => by simp at h
  | _, _, 0, _, _, .cons h _, e1, e2 => by
    simp at e1 e2
    rw [← e1, ← e2]
    exact h
  | _, _, i + 1, _, _, .cons _ t, e1, e2 => paired_get (i := i) t (by simpa using e1) (by simpa using e2)
def IkD (l : Addr) (o : Obj) (es : Array DictEntry) : It :=
  ⟨fun i H => H l = some (ObO l o) ∧ i < es.size, fun i H x H' => H' = H ∧ ∃ (hi : i < es.size) (b : Addr), es[i].key = .ref b ∧ x = .ref b, fun i H => H l = some (ObO l o) ∧ es.size ≤ i⟩
theorem turn_keysD {P : Program} {w : World} {K : PySem.W.Frag} {tg : Expr} {l : Addr} {o : Obj} {es : Array DictEntry} {ep : Nat} (it : Addr) (hx : o.ExactDict) (hd : o.data = .dict es ep) (hk : ∀ i (hi : i < es.size), ∃ b, es[i].key = .ref b) :
    Turn P w K tg (IkD l o es) [it] it (fun i h => h.IsKeyIter it l i es.size ep) where
  mem := by simp
  obj := fun i h st b hb => by
    have e : b = it := by simpa using hb
    subst e
    obtain ⟨oi, e, c, dd⟩ := st
    exact ⟨oi, e, fun v z => by rw [dd] at z; cases z⟩
  keep := fun i h h' st k => st.at fun oi e => k it (by simp) oi e
  item := by
    intro X hP hw hK hc i pins s σ H E I hf st ⟨hl, hi⟩
    subst hP hw hK
    obtain ⟨f0, f1, f2, f3, f4, f5⟩ := hf it (by simp)
    have ho : s.heap.get? l = some o := (I.hok l _ hl).1
    refine wpAny_pyNext_keys_item_raw st ⟨o, ho, hx, hd⟩ hi fun h' st' sb => ?_
    have I1 : Inv X pins σ H { s with heap := h' } := I.turned (t' := s.toks) (fun b ob hb e => (sb.2 b hb).trans e) f0 f1 f3 f4 f5
    obtain ⟨oi, e, c, dd⟩ := id st'
    obtain ⟨b, hb⟩ := hk i hi
    exact ⟨_, rfl, go_of (s := { s with heap := h' }) e c dd (by decide) ⟨.ref b, H, I1, by rw [hb]; exact rfl, ⟨rfl, hi, b, hb, rfl⟩, st', fun b hb => (hf b hb).1⟩⟩
  done := by
    intro X hP hw hK hc i pins s σ H E I hf st ⟨hl, hi⟩
    subst hP hw hK
    obtain ⟨f0, f1, f2, f3, f4, f5⟩ := hf it (by simp)
    have ho : s.heap.get? l = some o := (I.hok l _ hl).1
    exact wpAny_pyNext_keys_end_raw (I.ok.hd hc) st ⟨o, ho, hx, hd⟩ hi fun h' eb => ⟨rfl, I.turned (t' := s.toks) (fun b ob hb e => eb b ob hb e) f0 f1 f3 f4 f5⟩
  self := fun A i s Q E st h => wpAny_pyIter_keyiter st h
theorem sn_keysI {e tg : Expr} {m : Env → M D} (h : PE X e (tD (arOf X τ B E) md m)) : PI X tg e (tI (arOf X τ B E) md fun env => do let x ← m env; keysM x) := by
  refine ⟨fun pins z σ H R I ⟨env, s, Rp, t, hr⟩ => ?_⟩
  refine thn (h.run pins z σ H (fun v H1 => ∃ s1 kvs, Xt τ H H1 ∧ TownR τ H1 s1 ∧ Dv X.prog X.w X.K τ (Av B env σ) md H1 v (.dT kvs) ∧ ∀ J, ItOk X.K (Av B env σ) (if md then Av B env σ else τ.T) H1 J (kvs.map fun p => p.1.data) → R J H1) I ⟨env, s, Rp, t, (Ok.bnd hr).imp fun x s1 H1 e1 t1 h1 v dv => ?_⟩) fun u z1 hz => ?_
  · unfold keysM at h1
    split at h1
    · exact ⟨s1, _, e1, t1, dv, fun J hJ => h1.ret H1 (Xt.refl H1) t1 J hJ⟩
    · exact h1.elim
  · obtain ⟨v, H1, I1, r1, s1, kvs, e1, t1, ⟨l, rfl, nS, nT, hm⟩, q⟩ := hz
    cases r1
    obtain ⟨o, es, ep, xs, eo, lo, hx, hd, hes, hnd, hln, pr⟩ := hm
    have ho : z1.heap.get? l = some o := (I1.hok l _ eo).1
    have hk : ∀ i (hi : i < es.size), ∃ (x : NestedKey × Addr × Value), xs[i]? = some x ∧ es[i].key = .ref x.2.1 := fun i hi => by
      have e2 : es.toList[i]? = some es[i] := by rw [Array.getElem?_toList]; exact Array.getElem?_eq_getElem hi
      rw [hes, List.getElem?_map, Option.map_eq_some_iff] at e2
      obtain ⟨x, e3, e4⟩ := e2
      exact ⟨x, e3, by rw [← e4]; rfl⟩
    have hsz : es.size = xs.length := by
      have := congrArg List.length hes
      simpa using this
    refine wpAny_pyIter_dict_raw lo ⟨o, ho, hx, hd⟩ ?_
    refine ⟨z1.heap.objs.size, [z1.heap.objs.size], _, IkD l o es, H1, rfl, I1.kept (t' := z1.toks) fun _ _ g => Heap.get?_push_of_some _ g, turn_keysD z1.heap.objs.size hx hd fun i hi => ?_, ⟨_, Heap.get?_push_size _ rfl, rfl, rfl⟩, fun b hb => ?_, q _ ?_⟩
    · obtain ⟨x, _, e4⟩ := hk i hi
      exact ⟨_, e4⟩
    · obtain rfl : b = z1.heap.objs.size := by simpa using hb
      exact I1.fpOk (Nat.le_refl _) (I1.hok.fresh (Nat.le_refl _))
    · intro S' i H' hS hR ke
      have hl : H' l = some (ObO l o) := ke.1 l _ (by
        cases md with
        | true => exact nS rfl
        | false => exact nT) (fun _ z => by unfold ObO at z; cases z) eo
      refine ⟨fun d hi => ?_, fun hi => ⟨hl, ?_⟩⟩
      · rw [List.getElem?_map, Option.map_eq_some_iff] at hi
        obtain ⟨p, e5, rfl⟩ := hi
        have hlt : i < es.size := by
          have := (List.getElem?_eq_some_iff.mp e5).1
          rw [hsz, ← Paired.length pr]
          exact this
        obtain ⟨x, e6, e7⟩ := hk i hlt
        have hrow : RowR X.K (Av B env σ) H1 p x := paired_get pr e5 e6
        refine ⟨⟨hl, hlt⟩, fun y H'' ⟨e8, _, b, e9, e10⟩ => ?_⟩
        subst e8 e10
        rw [e7] at e9
        cases e9
        refine ⟨Al.refl _, ?_⟩
        rw [hrow.1]
        exact ke.dr hR (Dr.shift hS _ _ hrow.2.2.1)
      · rw [List.length_map, Paired.length pr, ← hsz] at hi
        exact hi
end
end BK
set_option Elab.async false
set_option linter.all false
set_option maxRecDepth 100000
set_option maxHeartbeats 4000000
/-! list(enumerate(t)), as a value. -/
namespace BK
open PySem PySem.Spec PyProof.Rows L2
/-- many new tuples -/
def layT (H : Hp) : List Addr → List (List V) → Hp
  | a :: as, v :: vs => upd (layT H as vs) a (.tup v)
  | _, _ => H
theorem layT_out {H : Hp} {b : Addr} : ∀ {as : List Addr} {vs : List (List V)}, b ∉ as → layT H as vs b = H b
  | [], _, _ => by unfold layT; rfl
  | _ :: _, [], _ => rfl
  | a :: as, v :: vs, h => by
    unfold layT
    rw [upd_ne (fun z => h (by simp [z]))]
    exact layT_out fun z => h (List.mem_cons_of_mem _ z)
theorem layT_at {H : Hp} : ∀ {as : List Addr} {vs : List (List V)} {j : Nat} {a : Addr} {v : List V}, as.Pairwise (· < ·) → as[j]? = some a → vs[j]? = some v → layT H as vs a = some (.tup v)
  | [], _, _, _, _, _, h, _ => by simp at h
  | _ :: _, [], _, _, _, _, _, h => by simp at h
  | a :: as, v :: vs, 0, _, _, _, e1, e2 => by
    simp at e1 e2
    subst e1 e2
    unfold layT
    rw [upd_same]
  | a :: as, v :: vs, j + 1, b, u, hp, e1, e2 => by
    obtain ⟨h1, h2⟩ := List.pairwise_cons.mp hp
    unfold layT
    have hb : b ∈ as := List.mem_of_getElem? (by simpa using e1)
    rw [upd_ne (Nat.ne_of_gt (h1 b hb))]
    exact layT_at (j := j) h2 (by simpa using e1) (by simpa using e2)
section
variable {X : Cx} {pins : List (Addr × Obj)} {σ : L2.St} {H : Hp} {s : Shared} {h' : Heap}
/-- new objects, above all that were there -/
theorem inv_many {H' : Hp} {t' : Nat} (I : Inv X pins σ H s) (k : ∀ b u, s.heap.get? b = some u → h'.get? b = some u) (lo : ∀ b, b < s.heap.objs.size → H' b = H b) (new : ∀ b o, ¬ b < s.heap.objs.size → H' b = some o → ObjOk X.prog X.w H' h' b o) :
    Inv X pins σ H' { s with heap := h', toks := t' } ∧ Al H H' := by
  have old : ∀ b o, H b = some o → H' b = some o := fun b o e => by
    rw [lo b (by
      rcases Nat.lt_or_ge b s.heap.objs.size with z | z
      · exact z
      · rw [I.hok.fresh z] at e; cases e)]
    exact e
  refine ⟨I.call (ch := []) ⟨fun b u q n _ _ => k b u q, fun b u q n _ _ => ⟨u.slots, k b u q⟩, fun b u q n _ => by rw [lo b (Heap.lt_size q)]; exact n, fun b u q _ => ⟨u, k b u q⟩, fun b xs q => old _ _ q, fun b u xs q => old _ _ q, fun b ps q => ⟨#[], by rw [old _ _ q]; simp⟩⟩ (fun b o e => ?_) I.bare (fun _ z => nomatch z), old⟩
  by_cases hb : b < s.heap.objs.size
  · rw [lo b hb] at e
    exact (I.hok b o e).stay (fun c v _ q => k c v q) (fun c q => old _ _ q) fun c xs q => old _ _ q
  · exact new b o hb e
end
section
variable {X : Cx} {τ : Tn} {B : Addr → Prop} {E : XK} {md : Bool} {pos : Pos}
theorem enum_drs {K : PySem.W.Frag} {S : Addr → Prop} {H : Hp} : ∀ {as : List Addr} {vs : List V} {ds : List PyData} (k : Nat), as.length = ds.length → Drs K S H vs ds → (∀ j a v, as[j]? = some a → vs[j]? = some v → H a = some (.tup [.int ((k + j : Nat) : Int), v])) → Drs K S H (as.map V.ref) (enumFrom' k ds)
  | [], _, [], _, _, _, _ => .nil
  | [], _, _ :: _, _, e, _, _ => by simp at e
  | _ :: _, _, [], _, e, _, _ => by simp at e
  | a :: as, _, d :: ds, k, e, .cons (v := v) h1 h2, hh => by
    refine .cons (.tup (SqT.of (hh 0 a v rfl rfl)) (.cons ?_ (.cons h1 .nil))) (enum_drs (k + 1) (by simpa using e) h2 fun j b u e1 e2 => ?_)
    · rw [Nat.add_zero]
      exact .int _
    · have := hh (j + 1) b u (by simpa using e1) (by simpa using e2)
      rw [show k + 1 + j = k + (j + 1) by omega]
      exact this
theorem sn_lenum {e : Expr} {p p2 q : Pos} {m : Env → M D} (g : Gd X) (hg : Gl X "list") (hm : X.mg "list" = none) (hg2 : Gl X "enumerate") (hm2 : X.mg "enumerate" = none) (h : PE X e (tD (arOf X τ B E) false m)) (ns : starred e = false) :
    PE X (.Call (.Name "list" p) [.Call (.Name "enumerate" p2) [e] [] q] [] pos) (tD (arOf X τ B E) md fun env => do
      let x ← m env
      match x with
      | .dat (.tuple ds) => if ds.length ≤ 1000 then M.ret (lst (enumFrom' 0 ds)) else M.non
      | _ => M.non) := by
  refine ⟨fun pins z σ H Q I ⟨env, s, R, t, hr⟩ => ?_⟩
  refine Call_ (ld_blt I hg hm (show bootBuiltins "list" = some (.type "list") by decide +kernel) ?_)
  refine PyProof.Rows.callWith_type1 (PyProof.Rows.args_cons ?_ rfl) rfl rfl
  refine Call_ (ld_blt I hg2 hm2 boot_enumerate ?_)
  refine PyProof.Rows.callWith_type1 (PyProof.Rows.args_cons (thn (h.run pins z σ H (fun v H1 => ∃ s1 ds, Xt τ H H1 ∧ TownR τ H1 s1 ∧ Dv X.prog X.w X.K τ (Av B env σ) false H1 v (.dat (.tuple ds)) ∧ ds.length ≤ 1000 ∧ ∀ H2, Xt τ H1 H2 → TownR τ H2 s1 → ∀ v2, Dv X.prog X.w X.K τ (Av B env σ) md H2 v2 (lst (enumFrom' 0 ds)) → Q v2 H2) I ⟨env, s, R, t, (Ok.bnd hr).imp fun x s1 H1 e1 t1 h1 v dv => ?_⟩) fun v z1 hz => PyProof.Rows.args_nil ?_) (star1 ns)) (star1 ns) rfl
  · split at h1
    · obtain ⟨hl, h2⟩ := h1.ifN
      exact ⟨s1, _, e1, t1, dv, hl, fun H2 x2 t2 v2 d2 => h2.ret H2 x2 t2 v2 d2⟩
    · exact h1.elim
  · obtain ⟨x, H1, I1, r1, s1, ds, e1, t1, dv, hl, q⟩ := hz
    obtain ⟨a, xs, rfl, hq, hd⟩ := dv.i.tup
    cases r1
    obtain ⟨its, rv, p', hzz⟩ := I1.tuple hq
    have hal : a < z1.heap.objs.size := by obtain ⟨_, z, _⟩ := p'; exact Heap.lt_size z
    have hsz : its.toArray.size = ds.length := by rw [List.size_toArray, ← rv.length, hd.length]
    refine enum_call p' fun h' he hit hs1 hk => PyProof.Rows.args_nil ?_
    refine enl_call (s := { z1 with heap := h' }) (I1.ok.hd g.calm) he hit (by obtain ⟨o, e1, e2⟩ := p'; exact ⟨o, hk a o e1, e2⟩) (Nat.succ_ne_self _) (Nat.ne_of_gt (Nat.lt_succ_of_lt hal)) (Nat.ne_of_lt hal) (by rw [hsz, sizeLine_eq]; omega) fun h2 tk acc c as k2 hL hlen G hacc => ?_
    have hs2 : h'.objs.size = z1.heap.objs.size + 2 := hs1
    have k3 : ∀ b u, z1.heap.get? b = some u → h2.get? b = some u := fun b u z => k2 b u (Nat.ne_of_lt (Nat.lt_succ_of_lt (Heap.lt_size z))) (Nat.ne_of_lt (Heap.lt_size z)) (hk b u z)
    let vs : List (List V) := xs.zipIdx.map fun p => [V.int ((p.2 : Nat) : Int), p.1]
    have hvs : ∀ j v, xs[j]? = some v → vs[j]? = some [V.int ((j : Nat) : Int), v] := fun j v e => by
      show (xs.zipIdx.map _)[j]? = _
      rw [List.getElem?_map, List.getElem?_zipIdx, e]
      simp
    have hlo : ∀ b ∈ as, z1.heap.objs.size < b := fun b hb => by
      have := G.above b hb
      have e : ({ z1 with heap := h' } : Shared).heap.objs.size = z1.heap.objs.size + 2 := hs1
      rw [e] at this
      exact Nat.lt_of_lt_of_le (Nat.lt_succ_of_lt (Nat.lt_succ_of_lt (Nat.lt_succ_self _))) this
    have hp : h'.objs.size ∉ as := fun hm => by
      have := G.above _ hm
      exact absurd this (Nat.not_le_of_lt (Nat.lt_succ_self _))
    have hlx : as.length = xs.length := by rw [hlen, List.size_toArray]; exact rv.length.symm
    have hpick : ∀ b ∈ as, ∃ j v u, as[j]? = some b ∧ xs[j]? = some v ∧ its[j]? = some u ∧ RelV v u := fun b hb => by
      obtain ⟨j, hj⟩ := List.getElem?_of_mem hb
      have hjl := (List.getElem?_eq_some_iff.mp hj).1
      have e : xs[j]? = some xs[j] := List.getElem?_eq_getElem (by omega)
      obtain ⟨u, e2, e3⟩ := rv.get e
      exact ⟨j, _, u, hj, e, e2, e3⟩
    have hacc' : Vals (as.map V.ref) acc.toList := by
      rw [hacc]
      clear hacc hlen G hpick hlx hlo hp
      induction as with
      | nil => exact .nil
      | cons b as ih => exact .cons rfl ih
    obtain ⟨J, al⟩ := inv_many (H' := upd (layT H1 as vs) h'.objs.size (.lst (as.map V.ref))) (t' := tk) I1 k3 (fun b hb => by
      rw [upd_ne (by rw [hs2]; exact Nat.ne_of_lt (Nat.lt_succ_of_lt (Nat.lt_succ_of_lt hb))), layT_out fun hm => absurd hb (Nat.not_lt_of_lt (hlo b hm))]) (fun b o hb e => by
      by_cases hbp : b = h'.objs.size
      · subst hbp
        rw [upd_same] at e
        cases e
        refine ⟨?_, acc.toList, c, hacc', ?_⟩
        · rw [List.length_map, hlx, hd.length.symm.symm, ← hd.length] 
          have := hd.length
          rw [sizeLine_eq]
          omega
        · exact hL
      · rw [upd_ne hbp] at e
        by_cases hba : b ∈ as
        · obtain ⟨j, v, u, j1, j2, j3, j4⟩ := hpick b hba
          rw [layT_at G.rise j1 (hvs j v j2)] at e
          cases e
          obtain ⟨tk2, y, g1, g2⟩ := G.pair j b j1
          have : y = u := by
            have e5 : its.toArray[j]? = some u := by simpa using j3
            rw [e5] at g1
            exact (Option.some.inj g1).symm
          subst this
          exact ⟨by show 2 ≤ sizeLine; decide, [.int (j : Int) tk2, y], .cons ⟨_, rfl⟩ (.cons j4 .nil), ⟨_, g2, rfl, _, rfl⟩⟩
        · rw [layT_out hba, I1.hok.fresh (Nat.le_of_not_lt hb)] at e
          cases e)
    refine ⟨.ref h'.objs.size, _, J, rfl, q _ al.xt (al.town t1) _ (Dv.weak (d := .dat _) (Dr.lst upd_same (fun z => ?_) (enum_drs 0 (by rw [hlx, hd.length]) (al.drs hd) fun j b v j1 j2 => ?_)))⟩
    · have := R.sdom _ z
      rcases e1.2.1 _ this |> fun z => z with z2
      exact z2 (I1.hok.fresh (by rw [hs2]; exact Nat.le_succ_of_le (Nat.le_succ _)))
    · have hb : b ∈ as := List.mem_of_getElem? j1
      rw [upd_ne (fun z => hp (by rw [← z]; exact hb)), layT_at G.rise j1 (hvs j v j2), Nat.zero_add]
end
end BK
set_option Elab.async false
set_option linter.all false
set_option maxRecDepth 100000
set_option maxHeartbeats 2000000
/-! d.get(k, x), tuples for keys. -/
namespace BK
open PySem L2
section
variable {X : Cx} {τ : Tn} {B : Addr → Prop} {E : XK} {md : Bool} {pos : Pos}
theorem get_dT (g : Gd X) {pins : List (Addr × Obj)} {s : Shared} {σ : L2.St} {H : Hp} {S : Addr → Prop} {l : Addr} {iv u : Value} {i v : V} {kvs : List (NestedKey × PyData)} {y d : PyData} {k : NestedKey} {Q : VK} (I : Inv X pins σ H s) (hm : DTr X.prog X.w X.K S H l kvs)
    (hk : nkey y = some k) (hy : Dr X.K S H i y) (hd : Dr X.K S H v d) (ri : RelV i iv) (rv : RelV v u) (q : ∀ w', Dr X.K S H w' ((lookT kvs k).getD d) → Q w' H) :
    wpAny (model X.prog X.w) X.A (call (.builtin "dict.get") [.ref l, iv, u]) (EP X pins σ Q) X.xe s := by
  obtain ⟨⟨ds, rfl⟩, e1, e2⟩ := nkey_of hk
  cases hy with
  | tup hs hdd =>
    rename_i b ys
    cases ri
    obtain ⟨xs, hmo, hne, hz, pr⟩ := hm.of I
    obtain ⟨a1, a2⟩ := look_row pr k
    refine call_meetsIn PySem.F.slot_dict_get hmo.typeIs PySem.F.entry_dict_get (PySem.F.args_dict_get_3 _ _ _) (meetsH_dict_get_default (nestedKind X.prog X.w) l b hne u) ⟨room_nested g, k, xs, ⟨nested_of I (.tuple ds) k _ _ e1 (.tup hs hdd) rfl, e2⟩, hmo, ?_⟩
    cases hlk : lookT kvs k with
    | none =>
      rw [hlk] at q
      rw [a2 hlk]
      exact ⟨v, H, I.tok _, rv, q v hd⟩
    | some d' =>
      rw [hlk] at q
      obtain ⟨b', u', v', f1, f2, f3⟩ := a1 d' hlk
      rw [f1]
      exact ⟨v', H, I.tok _, f2, q v' f3⟩
theorem DTr.ty {pins : List (Addr × Obj)} {s : Shared} {σ : L2.St} {H : Hp} {S : Addr → Prop} {l : Addr} {kvs : List (NestedKey × PyData)} (I : Inv X pins σ H s) (hm : DTr X.prog X.w X.K S H l kvs) :
    s.TypeIs (.ref l) "dict" ∧ ∀ b, Value.ref l = .ref b → ∃ ob, s.heap.get? b = some ob ∧ ob.dict = none := by
  obtain ⟨o, es, ep, xs, e, r1, r2, r3, r4, r5, r6, pr⟩ := hm
  have ho : s.heap.get? l = some o := (I.hok l _ e).1
  refine ⟨⟨o, ho, r2.1⟩, fun b z => ?_⟩
  cases z
  exact ⟨o, ho, r2.2.1⟩
theorem Ok.dT {H : Hp} {s : Twn} {d : D} {Q : List (NestedKey × PyData) → Twn → Hp → Prop} (h : Ok τ E H (dTOf d s) Q) : ∃ kvs, d = .dT kvs ∧ ∀ H', Xt τ H H' → TownR τ H' s → Q kvs s H' := by
  unfold dTOf at h
  split at h
  · exact ⟨_, rfl, h⟩
  · exact h.elim
theorem sn_dget (g : Gd X) {o e f : Expr} {ap cp : Pos} {m1 m2 m3 : Env → M D} (ho : PE X o (tD (arOf X τ B E) false m1)) (he : PE X e (tD (arOf X τ B E) true m2)) (hf : PE X f (tD (arOf X τ B E) true m3)) (m : M2 X o "get" ap e f cp) :
    PE X (.Call (.Attribute o "get" ap) [e, f] [] cp) (tD (arOf X τ B E) md fun env => do
      let kvs ← dTOf (← m1 env)
      let y ← datOf (← m2 env)
      let z ← datOf (← m3 env)
      let k ← M.of (nkey y)
      M.ret (.dat ((lookT kvs k).getD z))) := by
  refine ⟨fun pins s σ H Q I ⟨env, tw, R, t, h⟩ => ?_⟩
  refine wpAny_Call_method m.base m.few m.line PySem.F.plainAttrs_dict PySem.F.slot_dict_get PySem.F.type_dict_get (thn (ho.run pins s σ H (fun v H1 => ∃ tw1 kvs, TownR τ H1 tw1 ∧ Rep X.prog X.w X.K τ B env σ H1 ∧ Dv X.prog X.w X.K τ (Av B env σ) false H1 v (.dT kvs) ∧ Ok τ E H1 ((do
      let y ← datOf (← m2 env)
      let z ← datOf (← m3 env)
      let k ← M.of (nkey y)
      M.ret (.dat ((lookT kvs k).getD z)) : M D) tw1) fun d _ H' => ∀ v, Dv X.prog X.w X.K τ (Av B env σ) md H' v d → Q v H') I ⟨env, tw, R, t, h.bnd.imp fun x s1 H1 e1 t1 h1 v dv => ?_⟩) fun u z1 hz => ?_)
  · obtain ⟨kvs, rfl, h2⟩ := Ok.dT h1.bnd
    exact ⟨s1, kvs, t1, R.xt t e1, dv, h2 H1 (Xt.refl H1) t1⟩
  · obtain ⟨x, H1, I1, rx, tw1, kvs, t1, R1, ⟨l, e, _, _, hm⟩, h1⟩ := hz
    subst e
    obtain rfl : u = Value.ref l := rx
    obtain ⟨ty, od⟩ := hm.ty I1
    refine ⟨ty, od, ?_⟩
    rw [m.trees]
    refine Calls.callWith_builtin rfl (Calls.evalArgs_plain (Calls.spliced_cons (thn (he.run pins z1 σ H1 (fun v2 H2 => ∃ tw2 y, TownR τ H2 tw2 ∧ Xt τ H1 H2 ∧ Dr X.K (Av B env σ) H2 v2 y ∧ Ok τ E H2 ((do
      let z ← datOf (← m3 env)
      let k ← M.of (nkey y)
      M.ret (.dat ((lookT kvs k).getD z)) : M D) tw2) fun d _ H' => ∀ v, Dv X.prog X.w X.K τ (Av B env σ) md H' v d → Q v H') I1 ⟨env, tw1, R1, t1, h1.bnd.imp fun y s2 H2 e2 t2 h2 v2 dv2 => ?_⟩) fun iv z2 hz2 => ?_)))
    · obtain ⟨y, rfl, h3⟩ := h2.bnd.dat
      exact ⟨s2, y, t2, e2, dv2, h3 H2 (Xt.refl H2) t2⟩
    · obtain ⟨y2, H2, I2, r2, tw2, y, t2, e2, dy, h2⟩ := hz2
      have R2 := R1.xt t1 e2
      refine Calls.spliced_cons (thn (hf.run pins z2 σ H2 (fun v3 H3 => ∃ tw3 z, TownR τ H3 tw3 ∧ Xt τ H2 H3 ∧ Dr X.K (Av B env σ) H3 v3 z ∧ Ok τ E H3 ((do
        let k ← M.of (nkey y)
        M.ret (.dat ((lookT kvs k).getD z)) : M D) tw3) fun d _ H' => ∀ v, Dv X.prog X.w X.K τ (Av B env σ) md H' v d → Q v H') I2 ⟨env, tw2, R2, t2, h2.bnd.imp fun z s3 H3 e3 t3 h3 v3 dv3 => ?_⟩) fun fv z3 hz3 => ?_)
      · obtain ⟨z, rfl, h4⟩ := h3.bnd.dat
        exact ⟨s3, z, t3, e3, dv3, h4 H3 (Xt.refl H3) t3⟩
      · obtain ⟨y3, H3, I3, r3, tw3, z, t3, e3, dz, h3⟩ := hz3
        obtain ⟨k, hk, h4⟩ := h3.bnd.of
        have h5 := h4 H3 (Xt.refl H3) t3
        refine Calls.spliced_nil (get_dT g I3 (Xt.dT e3 t2 R2.tS ‹_› (Xt.dT e2 t1 R1.tS ‹_› hm)) hk (Xt.dr e3 t2 R2.tS dy) dz r2 r3 fun w' hw => h5.ret H3 (Xt.refl H3) t3 _ (Dv.weak (d := .dat _) hw))
/-- {}, to be a dict with tuples for keys, still written on -/
theorem sn_dnewF : PE X (.Dict [] [] pos) (tDF (arOf X τ B E) fun _ => M.ret (.dT [])) := ⟨fun pins s σ H Q I ⟨env, tw, R, t, h⟩ => by
  have hn : H s.heap.objs.size = none := I.hok.fresh (Nat.le_refl _)
  have hg : (s.heap.push { cls := .type "dict", data := .dict #[] }).get? s.heap.objs.size = some { cls := .type "dict", data := .dict #[] } := Heap.get?_push_size _ rfl
  have al : Al H (upd H s.heap.objs.size (ObO s.heap.objs.size { cls := .type "dict", data := .dict #[] })) := Al.new hn
  refine wpAny_Dict_empty ⟨.ref s.heap.objs.size, _, I.laid (a := s.heap.objs.size) (o := ObO s.heap.objs.size { cls := .type "dict", data := .dict #[] }) (t' := s.toks) (fun _ _ q => Heap.get?_push_of_some _ q) (Nat.le_refl _) ⟨hg, ⟨_, hg⟩, fun a b p z => z _ p⟩, rfl, ?_⟩
  refine h.ret _ al.xt (al.town t) _ hn (by rw [upd_same]; simp) ⟨_, rfl, fun z => (by cases z), fun z => t.ne (.inl z) hn, _, #[], 0, [], upd_same, beq_eq_false_iff_ne.mpr (Ne.symm (Nat.ne_of_lt I.big)), ⟨rfl, rfl, rfl⟩, rfl, rfl, List.nodup_nil, Nat.zero_le _, .nil⟩⟩
end
end BK
set_option Elab.async false
set_option linter.all false
set_option maxRecDepth 100000
set_option maxHeartbeats 4000000
/-! dict(pairs), {k: v}, t.index(i), min(a, b), sorted of a dict. -/
namespace BK
open PySem PySem.Spec PyProof.Rows L2
section
variable {K : PySem.W.Frag} {S : Addr → Prop} {H : Hp}
theorem pairK_of : ∀ {ds : List PyData} {vs : List V} {ps : List (Key × PyData)}, pairK ds = some ps → Drs K S H vs ds → ∃ (as : List Addr) (kvs : List (Key × V)), vs = as.map V.ref ∧ Paired (fun p kv => SqT K H p [kV kv.1, kv.2]) as kvs ∧ Paired (RowK K S H) ps kvs
  | [], _, _, e, h => by
    cases h
    cases e
    exact ⟨[], [], rfl, .nil, .nil⟩
  | d :: ds, _, _, e, h => by
    cases h with
    | cons h1 h2 =>
      unfold pairK at e
      split at e
      · cases ‹_ :: _ = []›
      · rename_i k d' r heq
        cases heq
        split at e
        · rename_i k' r' e1 e2
          cases e
          obtain ⟨as, kvs, rfl, q1, q2⟩ := pairK_of e2 h2
          cases h1 with
          | tup ht hd =>
            cases hd with
            | cons g1 g2 =>
              cases g2 with
              | cons g3 g4 =>
                cases g4
                have := kv_of e1 g1.i
                subst this
                rename_i a xs v
                exact ⟨_ :: as, (k', _) :: kvs, rfl, .cons ht q1, .cons ⟨rfl, g3⟩ q2⟩
        · cases e
      · cases e
theorem merge_rows {ps : List (Key × PyData)} {kvs : List (Key × V)} (h : Paired (RowK K S H) ps kvs) : ∀ {a : List (Key × PyData)} {b : List (Key × V)}, Paired (RowK K S H) a b → Paired (RowK K S H) (ps.foldl (fun z p => putT z p.1 p.2) a) (mergeK b kvs) := by
  induction h with
  | nil => exact fun h => h
  | @cons p q ps kvs h1 t ih =>
    intro a b h
    have e : mergeK b (q :: kvs) = mergeK (putK b q.1 q.2) kvs := rfl
    rw [List.foldl_cons, e, ← h1.1]
    exact ih (rowK_put h h1.2)
end
section
variable {X : Cx} {τ : Tn} {B : Addr → Prop} {E : XK} {md : Bool} {pos : Pos}
theorem sn_dkeF {e : Expr} {p : Pos} {m : Env → M D} (g : Gd X) (hg : Gl X "dict") (hm : X.mg "dict" = none) (h : PE X e (tD (arOf X τ B E) false m)) (ns : starred e = false) :
    PE X (.Call (.Name "dict" p) [e] [] pos) (tDF (arOf X τ B E) fun env => do let x ← m env; let kvs ← M.of (opDict x); M.ret (.dK kvs)) := by
  refine (pe_callTy (call_dictP g.calm) hg hm (by decide +kernel) (sn_one h ns) (by decide) (by decide) (star1 ns) rfl).imp fun σ H Q ⟨env, s, R, t, h⟩ => ?_
  refine ⟨env, s, R, t, h.bnd.imp fun x s1 H1 e1 t1 h1 v dv => ?_⟩
  obtain ⟨d, ed, h2⟩ := h1.bnd.of
  have h2 := h2 H1 (Xt.refl H1) t1
  unfold opDict at ed
  split at ed <;> try (cases ed; done)
  obtain ⟨hl, ed⟩ := Option.ite_none_right_eq_some.mp ed
  simp only [Option.map_eq_some_iff] at ed
  obtain ⟨ps, hps, rfl⟩ := ed
  obtain ⟨a, xs, rfl, hp, hd⟩ := dv.i.lst
  obtain ⟨as, kvs, rfl, q1, q2⟩ := pairK_of hps hd
  refine ⟨a, as, kvs, rfl, SqL.of hp, q1, fun b nb => ?_⟩
  have al := Al.new (o := .dK (mergeK [] kvs)) nb
  have n0 := none_of e1 nb
  refine h2.ret _ al.xt (al.town t1) b n0 (by rw [upd_same]; simp) ⟨b, rfl, fun z => (by cases z), fun z => t1.ne (.inl z) nb, _, upd_same, ?_⟩
  exact Paired.mp (merge_rows q2 .nil) fun p x ⟨a1, a2⟩ => ⟨a1, al.dr (Dr.shift (fun c z => z.imp id fun z => by rw [z]; exact nb) _ _ a2)⟩
theorem sn_min2 {e f : Expr} {p : Pos} {m1 m2 : Env → M D} (g : Gd X) (hg : Gl X "min") (hm : X.mg "min" = none) (h1 : PE X e (tD (arOf X τ B E) true m1)) (h2 : PE X f (tD (arOf X τ B E) true m2)) (ns : starred e = false) (ns2 : starred f = false) :
    PE X (.Call (.Name "min" p) [e, f] [] pos) (tD (arOf X τ B E) md fun env => do
      let i ← intOf (← m1 env)
      let j ← intOf (← m2 env)
      M.ret (int (if j < i then j else i))) := by
  refine (pe_callB (call_min2 g.calm) hg hm (by decide +kernel) (pa_cons h1 (pa_cons h2 pa_nil (star1 ns2)) (star1 ns)) (by decide) (by decide) (star1 ns) (stars_any fun x hx => by rw [List.mem_singleton.mp hx]; exact ns2)).imp fun σ H Q ⟨env, s, R, t, h⟩ => ?_
  refine ⟨env, s, R, t, h.bnd.imp fun x s1 H1 e1 t1 h1 v dv => ?_⟩
  obtain ⟨i, rfl, h2⟩ := h1.bnd.int
  obtain rfl := dv.i.int
  have h3 := h2 H1 (Xt.refl H1) t1
  refine ⟨env, s1, R.xt t e1, t1, h3.bnd.imp fun y s2 H2 e2 t2 h3 u du => ?_⟩
  obtain ⟨j, rfl, h4⟩ := h3.bnd.int
  obtain rfl := du.i.int
  exact ⟨i, j, rfl, (h4 H2 (Xt.refl H2) t2).ret H2 (Xt.refl H2) t2 _ (Dv.weak (d := .dat _) (.int _))⟩
theorem cq_sorted (g : Gd X) : CallR X (.builtin "sorted") (rQ X.prog X.w X.K τ opSorted) := by
  intro pins s σ H vs us Q I r ⟨x, e, S, dx, rr, hS, hx, hg, q⟩
  subst e
  unfold opSorted at hg
  split at hg <;> try (cases hg; done)
  · obtain ⟨hs, hg⟩ := Option.ite_none_right_eq_some.mp hg
    cases hg
    obtain ⟨p, xs, rfl, hp, hd⟩ := hx.i.lst
    rw [Vals.ref1 r]
    obtain ⟨its, rv, pl, hz⟩ := I.list (SqL.of hp)
    exact sort_list g I hS pl.isList rv hd hs fun v H' al dv => q v H' al dv
  · obtain ⟨hs, hg⟩ := Option.ite_none_right_eq_some.mp hg
    cases hg
    obtain ⟨p, rfl, n1, n2, hm⟩ := hx
    rw [Vals.ref1 r]
    exact sorted_dT g I hS hm hs fun v H' al dv => q v H' al dv
/-! ### {k: v} -/
theorem disp_pairs {P : Program} {w : World} {A : Around} {E : Value → Shared → Prop} {s : Shared} {env : PySem.Env} {keys : List (Option Expr)} {values : List Expr} {pos : Pos} {pairs : List (Sem Value × Sem Value)} {Q : Value → Shared → Prop} (hu : (nestedKind P w).room A)
    (hz : (evalEachOpt keys env).zip ((evalEach values env).map fun v => do let x ← v; standAt pos; pure x) = pairs.map fun p => (some p.1, p.2)) (h0 : pairs ≠ []) (hl : pairs.length ≤ 15)
    (h : wpAny (model P w) A (evalPairs pairs) (fun vs s₁ => ∃ ps, CarriesH (nestedKind P w) s₁.heap vs ps ∧ s₁.heap.DictOfH (nestedKind P w) s.heap.objs.size [] ∧
      ∀ h' tk, h'.DictOfH (nestedKind P w) s.heap.objs.size (storedAllH [] ps) → Heap.SameBut s.heap.objs.size s₁.heap h' → Q (.ref s.heap.objs.size) { s₁ with heap := h', toks := tk }) E { s with heap := s.heap.push { cls := .type "dict", data := .dict #[] } }) :
    wpAny (model P w) A (eval (.Dict keys values pos) env) Q E s := by
  rw [arm_eval_Dict, hz, dictDisplay_pairs pairs h0 (by omega)]
  refine wpAny_bind (wpAny_standAt (wpAny_bind (wpAny_subDictH (knd := nestedKind P w) (Q := fun d s' => wpAny (model P w) A (pure (Value.ref d)) Q E s') hu hl (wpAny_mono h (fun vs s₁ q => ?_) fun _ _ e => e))))
  obtain ⟨ps, c, m, q⟩ := q
  exact ⟨ps, c, m, fun h' tk a b => wpAny_pure (q h' tk a b)⟩
mutual
theorem Dr.apt {K : PySem.W.Frag} {S : Addr → Prop} {H : Hp} {p : Addr} (hp : ∀ xs, H p ≠ some (.lst xs)) : ∀ (d : PyData) (v : V), Dr K S H v d → Dr K (fun a => S a ∨ a = p) H v d
  | .none, _, h => by cases h; exact .non
  | .bool _, _, h => by cases h; exact .bl _
  | .int _, _, h => by cases h; exact .int _
  | .str _, _, h => by cases h; exact .str _
  | .list ds, _, h => by
    cases h with
    | lst e n q => exact .lst e (fun z => z.elim n fun z => by rw [z] at e; exact hp _ e) (Drs.apt hp ds _ q)
  | .tuple ds, _, h => by
    cases h with
    | tup e q => exact .tup e (Drs.apt hp ds _ q)
  | .dict _, _, h => by cases h
theorem Drs.apt {K : PySem.W.Frag} {S : Addr → Prop} {H : Hp} {p : Addr} (hp : ∀ xs, H p ≠ some (.lst xs)) : ∀ (ds : List PyData) (vs : List V), Drs K S H vs ds → Drs K (fun a => S a ∨ a = p) H vs ds
  | [], _, h => by cases h; exact .nil
  | d :: ds, _, h => by
    cases h with
    | cons h1 h2 => exact .cons (Dr.apt hp d _ h1) (Drs.apt hp ds _ h2)
end
theorem Wp.dat {d : D} {s : Twn} {Q : PyData → Twn → Prop} {E : Nat → Twn → Prop} (h : Wp (datOf d s) Q E) : ∃ p, d = .dat p ∧ Q p s := by
  unfold datOf at h
  split at h
  · exact ⟨_, rfl, h⟩
  · exact h.elim
theorem sn_doneF {k v : Expr} {m1 m2 : Env → M D} (g : Gd X) (h1 : PE X k (tD (arOf X τ B E) true m1)) (h2 : PE X v (tD (arOf X τ B E) true m2)) :
    PE X (.Dict [some k] [v] pos) (tDF (arOf X τ B E) fun env => do
      let y ← datOf (← m1 env)
      let z ← datOf (← m2 env)
      let k ← M.of (nkey y)
      M.ret (.dT [(k, z)])) := by
  refine ⟨fun pins s σ H Q I ⟨env, tw, R, t, h⟩ => ?_⟩
  have hn : H s.heap.objs.size = none := I.hok.fresh (Nat.le_refl _)
  let ob : Obj := { cls := .type "dict", data := .dict #[] }
  have hg : (s.heap.push ob).get? s.heap.objs.size = some ob := Heap.get?_push_size _ rfl
  have al : Al H (upd H s.heap.objs.size (ObO s.heap.objs.size ob)) := Al.new hn
  have I0 : Inv X pins σ (upd H s.heap.objs.size (ObO s.heap.objs.size ob)) { s with heap := s.heap.push ob, toks := s.toks } := I.laid (a := s.heap.objs.size) (o := ObO s.heap.objs.size ob) (t' := s.toks) (fun _ _ q => Heap.get?_push_of_some _ q) (Nat.le_refl _) ⟨hg, ⟨_, hg⟩, fun a b p z => z _ p⟩
  have R0 := R.xt t al.xt
  have t0 := al.town t
  have nU : ¬ τ.U s.heap.objs.size := fun z => t.ne z hn
  have nT : ¬ τ.T s.heap.objs.size := fun z => nU (.inl z)
  have hroom : (nestedKind X.prog X.w).room X.A := by have := g.un; show X.A.units + 8 < cLine; omega
  refine disp_pairs (pairs := pairTrees [some k] [v] X.env pos) hroom (zip_pairTrees [some k] [v] X.env pos rfl rfl) (by simp [pairTrees]) (by simp [pairTrees]) (pairTrees_cons_walk ?_)
  let QQ : D → Twn → Prop := fun d s' => ∀ H', Xt τ H H' → TownR τ H' s' → ∀ p, H p = none → H' p ≠ none → Dv X.prog X.w X.K τ (fun b => Av B env σ b ∨ b = p) false H' (.ref p) d → Q (.ref p) H'
  let EE : Nat → Twn → Prop := fun c s' => ∀ H', Xt τ H H' → TownR τ H' s' → E (τ.cl c) none H'
  have hK : Ok τ E (upd H s.heap.objs.size (ObO s.heap.objs.size ob)) (m1 env tw) fun x s1 H1 => Wp ((do
      let y ← datOf x
      let z ← datOf (← m2 env)
      let k ← M.of (nkey y)
      M.ret (.dT [(k, z)]) : M D) s1) QQ EE :=
    Wp.mono (Wp.bnd h) (fun x s1 q1 H1 x1 t1 => q1) fun c s1 q1 H1 x1 t1 => q1 H1 (al.xt.trans x1) t1
  refine thn (h1.run pins _ σ _ (fun x H1 => ∃ s1 y, TownR τ H1 s1 ∧ Xt τ (upd H s.heap.objs.size (ObO s.heap.objs.size ob)) H1 ∧ Dr X.K (Av B env σ) H1 x y ∧ Wp ((do
      let z ← datOf (← m2 env)
      let k ← M.of (nkey y)
      M.ret (.dT [(k, z)]) : M D) s1) QQ EE) I0 ⟨env, tw, R0, t0, hK.imp fun x s1 H1 e1 t1 h1 v1 dv1 => ?_⟩) fun ku z1 hz => ?_
  · obtain ⟨y, rfl, h3⟩ := Wp.dat (Wp.bnd h1)
    exact ⟨s1, y, t1, e1, dv1, h3⟩
  obtain ⟨x, H1, I1, rx, s1, y, t1, e1, dy, hh⟩ := hz
  have R1 := R0.xt t0 e1
  have hL : Ok τ E H1 (m2 env s1) fun x s2 H2 => Wp ((do
      let z ← datOf x
      let k ← M.of (nkey y)
      M.ret (.dT [(k, z)]) : M D) s2) QQ EE :=
    Wp.mono (Wp.bnd hh) (fun x s2 q2 H2 x2 t2 => q2) fun c s2 q2 H2 x2 t2 => q2 H2 ((al.xt.trans e1).trans x2) t2
  refine thn (h2.run pins _ σ _ (fun x H2 => ∃ s2 z, TownR τ H2 s2 ∧ Xt τ H1 H2 ∧ Dr X.K (Av B env σ) H2 x z ∧ Wp ((do
      let k ← M.of (nkey y)
      M.ret (.dT [(k, z)]) : M D) s2) QQ EE) I1 ⟨env, s1, R1, t1, hL.imp fun x s2 H2 e2 t2 h2 v2 dv2 => ?_⟩) fun vu z2 hz2 => ?_
  · obtain ⟨z, rfl, h3⟩ := Wp.dat (Wp.bnd h2)
    exact ⟨s2, z, t2, e2, dv2, h3⟩
  obtain ⟨x2, H2, I2, rx2, s2, z, t2, e2, dz, hh2⟩ := hz2
  obtain ⟨kk, hk, h3⟩ := Wp.of (Wp.bnd hh2)
  have e12 : Xt τ (upd H s.heap.objs.size (ObO s.heap.objs.size ob)) H2 := e1.trans e2
  have hd2 : H2 s.heap.objs.size = some (ObO s.heap.objs.size ob) := e12.1 _ _ nT (fun _ z => by unfold ObO at z; cases z) upd_same
  have ho2 : z2.heap.get? s.heap.objs.size = some ob := (I2.hok _ _ hd2).1
  have dy2 : Dr X.K (Av B env σ) H2 x y := Xt.dr e2 t1 R1.tS dy
  obtain ⟨⟨ds, rfl⟩, n1, n2⟩ := nkey_of hk
  have hkd : kk.data = .tuple ds := nk_data _ _ n1
  have hdy := dy2
  cases dy2 with
  | tup hs hdd =>
    rename_i b ys
    cases rx
    refine pairTrees_nil_walk ⟨[(kk, b, vu)], ⟨rfl, rfl, ⟨nested_of I2 (.tuple ds) kk _ _ n1 hdy rfl, n2⟩, trivial⟩, ⟨ob, #[], 0, ho2, ⟨rfl, rfl, rfl⟩, rfl, rfl, fun x hx => (by cases hx), List.nodup_nil⟩, fun h' tk hm sb => ?_⟩
    obtain ⟨o', es', ep', g1, g2, g3, g4, g5, g6⟩ := hm
    have ku : Ke (fun a => a = s.heap.objs.size) H2 (upd H2 s.heap.objs.size (ObO s.heap.objs.size o')) := ob_ke hd2
    have hdr : ∀ {v : V} {d : PyData}, Dr X.K (Av B env σ) H2 v d → Dr X.K (fun c => Av B env σ c ∨ c = s.heap.objs.size) (upd H2 s.heap.objs.size (ObO s.heap.objs.size o')) v d := fun {v d} q => by
      refine ku.dr (fun _ z => .inr z) (Dr.apt (fun xs z => ?_) _ _ q)
      rw [hd2] at z
      unfold ObO at z
      cases z
    have hrow : RowR X.K (fun c => Av B env σ c ∨ c = s.heap.objs.size) (upd H2 s.heap.objs.size (ObO s.heap.objs.size o')) (kk, z) (kk, b, vu) := ⟨rfl, n2, by rw [hkd]; exact hdr hdy, x2, rx2, hdr dz⟩
    have ht : ∀ T, LamX.Tabs T H2 → LamX.Tabs T (upd H2 s.heap.objs.size (ObO s.heap.objs.size o')) := fun T t p hp => by
      obtain ⟨ps, t1, t2, t3⟩ := t p hp
      refine ⟨ps, ?_, t2, fun pos cv hc => ?_⟩
      · rw [upd_ne (fun e => by rw [e, hd2] at t1; unfold ObO at t1; cases t1)]
        exact t1
      · obtain ⟨c, c1, c2⟩ := t3 pos cv hc
        refine ⟨c, c1, ?_⟩
        rw [upd_ne (fun e => by
          rw [e, hd2] at c2
          exact code_not ho2 rfl (Option.some.inj c2))]
        exact c2
    refine ⟨.ref s.heap.objs.size, upd H2 s.heap.objs.size (ObO s.heap.objs.size o'), I2.write (x := s.heap.objs.size) (e := s.heap.objs.size) (by rw [hd2]; exact True.intro) (.inl rfl) (fun c w' hc q => (sb.2 c hc).trans q) ⟨_, g1⟩ ⟨g1, ⟨_, g1⟩, fun a b p z => z _ p⟩, rfl, ?_⟩
    refine h3 _ (Ke.ext (al.xt.trans e12) ku fun c hc => .inr (by rw [hc]; exact hn)) (apart_of (fun c hc => upd_ne hc) ht nU s2 t2) _ hn (by rw [upd_same]; simp) ⟨_, rfl, fun z => (by cases z), nT, o', es', ep', _, upd_same, beq_eq_false_iff_ne.mpr (Ne.symm (Nat.ne_of_lt I.big)), g2, g3, g4, g6, show 1 ≤ sizeLine from (by decide), .cons hrow .nil⟩
end
end BK
set_option Elab.async false
set_option linter.all false
set_option maxRecDepth 100000
set_option maxHeartbeats 4000000
/-! The small language says the truth: expressions, all. -/
namespace BK
open PySem L2
section
variable {nm : Nm} {Gs : Nat → List Int → Fun} {CX : CXT}
variable {X : Cx} {τ : Tn} {B : Addr → Prop} {E : XK} {md : Bool} {pos : Pos}
/-- the two readings of an expression -/
structure Both (Gs : Nat → List Int → Fun) (X : Cx) (τ : Tn) (B : Addr → Prop) (E : XK) (c : CE) (e : Expr) : Prop where
  v : ∀ md, PE X e (tD (arOf X τ B E) md (ev (GG Gs τ) md c))
  t : noIte c = true → PT X e (tT (arOf X τ B E) fun env => do truth (← ev (GG Gs τ) true c env))
structure Many (Gs : Nat → List Int → Fun) (X : Cx) (τ : Tn) (B : Addr → Prop) (E : XK) (es : CEs) (l : List Expr) : Prop where
  a : PA X l (tA (arOf X τ B E) (evs (GG Gs τ) es))
  an : l ≠ [] → ∀ pos md, PE X (.BoolOp .And l pos) (tD (arOf X τ B E) md fun env => do let r ← evAnd (GG Gs τ) es env; M.ret (bl r))
  or : l ≠ [] → ∀ pos md, PE X (.BoolOp .Or l pos) (tD (arOf X τ B E) md fun env => do let r ← evOr (GG Gs τ) es env; M.ret (bl r))
  anT : l ≠ [] → noItes es = true → ∀ pos, PW X (.BoolOp .And l pos) (tT (arOf X τ B E) (evAnd (GG Gs τ) es))
  orT : l ≠ [] → noItes es = true → ∀ pos, PW X (.BoolOp .Or l pos) (tT (arOf X τ B E) (evOr (GG Gs τ) es))
  each : Each Gs X τ B E es l
/-- a reading by another word -/
theorem pt_eq {e : Expr} {m m' : Env → M Bool} (h : PT X e (tT (arOf X τ B E) m)) (he : ∀ env, m' env = m env) : PT X e (tT (arOf X τ B E) m') := by
  have : m' = m := funext he
  rw [this]
  exact h
theorem pe_eq {e : Expr} {m m' : Env → M D} (h : PE X e (tD (arOf X τ B E) md m)) (he : ∀ env, m' env = m env) : PE X e (tD (arOf X τ B E) md m') := by
  have : m' = m := funext he
  rw [this]
  exact h
theorem tru_bl (b : Bool) : truth (bl b) = M.ret b := rfl
/-- both, where a test is the value's truth -/
theorem Both.of {c : CE} {e : Expr} (h : ∀ md, PE X e (tD (arOf X τ B E) md (ev (GG Gs τ) md c))) (he : ∀ whole, isTrue e X.env whole = (do let v ← whole; standAt e.pos; holding [v] (truthy v))) : Both Gs X τ B E c e := ⟨h, fun _ => sn_tt (h true) he⟩
theorem sn_isNT {e : Expr} {m : Env → M D} {k : Nat} {p : Pos} (h : PE X e (tD (arOf X τ B E) false m)) : PT X (.Compare e [.Is] [.Constant .none k p] pos) (tT (arOf X τ B E) fun env => do let x ← datOf (← m env); M.ret (isNon x)) := by
  refine (pt_cmp (pc_isN h)).imp fun σ H Q ⟨env, s, R, t, h⟩ => ?_
  refine ⟨env, s, R, t, h.bnd.imp fun x s1 H1 e1 t1 h1 v dv => ?_⟩
  obtain ⟨i, rfl, h2⟩ := h1.bnd.dat
  rw [non_iff dv.i]
  exact ⟨_, rfl, (h2 H1 (Xt.refl H1) t1).ret H1 (Xt.refl H1) t1⟩
theorem sn_notNT {e : Expr} {m : Env → M D} {k : Nat} {p : Pos} (h : PE X e (tD (arOf X τ B E) false m)) : PT X (.Compare e [.IsNot] [.Constant .none k p] pos) (tT (arOf X τ B E) fun env => do let x ← datOf (← m env); M.ret (!isNon x)) := by
  refine (pt_cmp (pc_notN h)).imp fun σ H Q ⟨env, s, R, t, h⟩ => ?_
  refine ⟨env, s, R, t, h.bnd.imp fun x s1 H1 e1 t1 h1 v dv => ?_⟩
  obtain ⟨i, rfl, h2⟩ := h1.bnd.dat
  rw [non_iff dv.i]
  exact ⟨_, rfl, (h2 H1 (Xt.refl H1) t1).ret H1 (Xt.refl H1) t1⟩
theorem sn_chnT {x y z : Expr} {m1 m2 m3 : Env → M D} (h1 : PE X x (tD (arOf X τ B E) false m1)) (h2 : PE X y (tD (arOf X τ B E) false m2)) (h3 : PE X z (tD (arOf X τ B E) false m3)) :
    PT X (.Compare x [.LtE, .LtE] [y, z] pos) (tT (arOf X τ B E) fun env => do
      let x ← intOf (← m1 env)
      let y ← intOf (← m2 env)
      if x ≤ y then
        let z ← intOf (← m3 env)
        M.ret (decide (y ≤ z))
      else M.ret false) := by
  refine (pt_chain op_le op_le h1 h2 h3 (hm := nomark (op := .LtE) z)).imp fun σ H Q ⟨env, s, R, t, h⟩ => ?_
  refine ⟨env, s, R, t, h.bnd.imp fun x s1 H1 e1 t1 h1 v dv => ?_⟩
  obtain ⟨i, rfl, k1⟩ := h1.bnd.int
  obtain rfl := dv.i.int
  refine ⟨env, s1, R.xt t e1, t1, (k1 H1 (Xt.refl H1) t1).bnd.imp fun y s2 H2 e2 t2 h2 u du => ?_⟩
  obtain ⟨j, rfl, k2⟩ := h2.bnd.int
  obtain rfl := du.i.int
  refine ⟨i, j, rfl, rfl, decide (i ≤ j), rfl, ?_⟩
  rcases (k2 H2 (Xt.refl H2) t2).iff with ⟨hc, h3⟩ | ⟨hc, h3⟩
  · rw [if_pos (decide_eq_true hc)]
    refine ⟨env, s2, (R.xt t e1).xt t1 e2, t2, h3.bnd.imp fun z s3 H3 e3 t3 h3 w' dw => ?_⟩
    obtain ⟨k, rfl, k3⟩ := h3.bnd.int
    obtain rfl := dw.i.int
    exact ⟨j, k, rfl, rfl, _, rfl, (k3 H3 (Xt.refl H3) t3).ret H3 (Xt.refl H3) t3⟩
  · rw [if_neg (by rw [decide_eq_false hc]; exact Bool.false_ne_true)]
    exact ⟨_, rfl, h3.ret H2 (Xt.refl H2) t2⟩
theorem nomark' (b : Expr) {op : CmpOp} (h : ∀ l k p, b ≠ .Set l k p) : behindInMarks op b = false := by
  cases b <;> first
    | rfl
    | exact absurd rfl (h _ _ _)
theorem ck_nset {sc : Scope} {c : CE} {e : Expr} (h : ck nm sc c e = true) : ∀ l k p, e ≠ .Set l k p := fun l k p z => by
  rw [z, ck_set] at h
  cases h
theorem boC {o : BO} {op : Operator} (g : Gd X) (h : boOk o op = true) : OpR X (binaryOp op) (rB X.prog X.w X.K τ (opBin o)) := by
  cases o <;> cases op <;> first
    | (cases h; done)
    | exact ob_add
    | exact ob_sub
    | exact ob_mod
    | exact ob_fdiv
    | exact ob_mul
theorem coC {o : CO} {op : CmpOp} (g : Gd X) (h : coOk o op = true) : OpR X (compareOp op) (rC X.prog X.w X.K τ (opCmp o)) := by
  cases o <;> cases op <;> first
    | (cases h; done)
    | exact oc_eq g
    | exact oc_ne g
    | exact oc_lt g
    | exact oc_le g
    | exact oc_gt
    | exact oc_ge
    | exact oc_in g
    | exact oc_notin g
theorem cst_ok {d : PyData} {c : Const} {k : Nat} (h : constOk d c = true) : PE X (.Constant c k pos) (tD (arOf X τ B E) md fun _ => M.ret (.dat d)) := by
  unfold constOk at h
  split at h
  · exact sn_val pe_non fun _ _ => Dr.non
  · have h := eq_of_beq h
    subst h
    exact sn_val pe_bl fun _ _ => Dr.bl _
  · have h := eq_of_beq h
    subst h
    exact sn_val pe_int fun _ _ => Dr.int _
  · have h := eq_of_beq h
    subst h
    exact sn_val pe_str fun _ _ => Dr.str _
  · cases h
theorem p1_ok (g : Gd X) (hb : ∀ x, x ∈ biNames → X.mg x = none) {p : P1} {x : Expr} {m : Env → M D} {pp : Pos} (hg : X.env.scope.names.lookup p.nm = some .globalImplicit) (h : PE X x (tD (arOf X τ B E) false m)) (ns : starred x = false) :
    PE X (.Call (.Name p.nm pp) [x] [] pos) (tD (arOf X τ B E) md fun env => do let x ← m env; M.of (opP1 p x)) := by
  cases p with
  | len => exact sn_p1 cq_len hg (hb _ (by decide)) PySem.boot_len (by decide) (by decide) h ns
  | all => exact sn_p1 (cq_all g) hg (hb _ (by decide)) (by decide +kernel) (by decide) (by decide) h ns
  | tuple => exact sn_p1T cq_tuple hg (hb _ (by decide)) (by decide +kernel) (by decide) (by decide) h ns
  | list => exact sn_p1T cq_list hg (hb _ (by decide)) (by decide +kernel) (by decide) (by decide) h ns
  | sorted => exact sn_p1 (cq_sorted g) hg (hb _ (by decide)) (by decide +kernel) (by decide) (by decide) h ns
  | min => exact sn_p1 (cq_min g) hg (hb _ (by decide)) (by decide +kernel) (by decide) (by decide) h ns
  | str => exact sn_p1T cq_str hg (hb _ (by decide)) (by decide +kernel) (by decide) (by decide) h ns
  | int => exact sn_p1T cq_int hg (hb _ (by decide)) (by decide +kernel) (by decide) (by decide) h ns
end

section
variable {nm : Nm} {Gs : Nat → List Int → Fun} {CX : CXT}
/-- the text of a comprehension, its parts known -/
theorem lc_parts {X : Cx} {τ : Tn} {B : Addr → Prop} {E : XK} (F : Fx nm Gs CX X τ E) {scope : Scope} {tg : Tg} {t : Expr} {elt : Expr} {celt : CE} (hT : ckTg nm (blkFn scope) (relS scope X.env.scope) tg t = true)
    (he : ∀ (X' : Cx) (B' : Addr → Prop) (E' : XK), Fx nm Gs CX X' τ E' → X'.env.scope = relS scope X.env.scope → Both Gs X' τ B' E' celt elt) :
    (∀ (s : Shared) (H : Hp) (C : Addr) (cl : List (Str × Addr)) (fp : List Addr), PG (X.blk s H scope (compEnvC scope cl C X.env) fp) t (tGx (arOf X τ B fun _ _ _ => False) tg)) ∧
    (∀ (s : Shared) (H : Hp) (C : Addr) (cl : List (Str × Addr)) (fp : List Addr), PE (X.blk s H scope (compEnvC scope cl C X.env) fp) elt (tDx (arOf X τ B fun _ _ _ => False) (ev (GG Gs τ) true celt))) := by
  refine ⟨fun s H C cl fp => ⟨fun pins s' σ H' v u Q I r hq => ?_⟩, fun s H C cl fp => ⟨fun pins s' σ H' Q I hq => ?_⟩⟩
  · obtain ⟨B', hq⟩ := hq
    have F' := F.blk s H scope C cl fp
    exact (sn_tg (X := X.blk s H scope (compEnvC scope cl C X.env) fp) (τ := τ) (B := B') (E := fun _ _ _ => False) (nm := nm) (fnb := blkFn scope) F'.gd F'.N (fun x hx => hx) tg t hT).run pins s' σ H' v u Q I r hq
  · obtain ⟨B', hq⟩ := hq
    have F' := F.blk s H scope C cl fp
    exact ((he _ B' _ F' rfl).v true).run pins s' σ H' Q I hq
theorem lc_cond {X : Cx} {τ : Tn} {B : Addr → Prop} {E : XK} (F : Fx nm Gs CX X τ E) {scope : Scope} {cond : Expr} {ccond : CE} (hn : noIte ccond = true)
    (he : ∀ (X' : Cx) (B' : Addr → Prop) (E' : XK), Fx nm Gs CX X' τ E' → X'.env.scope = relS scope X.env.scope → Both Gs X' τ B' E' ccond cond) :
    ∀ (s : Shared) (H : Hp) (C : Addr) (cl : List (Str × Addr)) (fp : List Addr), PTs (X.blk s H scope (compEnvC scope cl C X.env) fp) [cond] (tTx (arOf X τ B fun _ _ _ => False) fun env => do truth (← ev (GG Gs τ) true ccond env)) := by
  intro s H C cl fp
  refine pts_one ⟨fun pins s' σ H' Q I hq => ?_⟩
  obtain ⟨B', hq⟩ := hq
  have F' := F.blk s H scope C cl fp
  exact ((he _ B' _ F' rfl).t hn).run pins s' σ H' Q I hq
theorem lc_yes {X : Cx} {τ : Tn} {B : Addr → Prop} {scope : Scope} : ∀ (s : Shared) (H : Hp) (C : Addr) (cl : List (Str × Addr)) (fp : List Addr), PTs (X.blk s H scope (compEnvC scope cl C X.env) fp) [] (tTx (arOf X τ B fun _ _ _ => False) fun _ => M.ret true) := by
  intro s H C cl fp
  refine ⟨fun pins s' σ H' Q I hq => pts_nil.run pins s' σ H' Q I ?_⟩
  obtain ⟨B', env, s, R, t, h⟩ := hq
  exact h H' (Xt.refl H') t
end

theorem lcIf_ev {G : Nat → Fun} {md : Bool} {own : List Nat} {tg : Tg} {it : CI} {cond elt : CE} {env : Env} : ev G md (.lcIf own tg it cond elt) env = (do
    let xs ← evI G false it env
    if ownFree env own then
      let r ← lcGo (turnOf own tg (fun env => do truth (← ev G true cond env)) (ev G true elt) env) xs
      if fits r then M.ret (lst r) else M.non
    else M.non) := by
  have he : ∀ x, (M.nox (M.bnd (M.of (bindTg tg x (wipeE env own))) fun e => M.bnd (ev G true cond e) fun r => M.bnd (truth r) fun b => if b = true then (do let y ← datOf (← ev G true elt e); M.ret (some y)) else M.ret none)) = turnOf own tg (fun env => do truth (← ev G true cond env)) (ev G true elt) env x := by
    intro x
    show _ = M.nox (M.bnd (M.of (bindTg tg x (wipeE env own))) fun e => M.bnd (M.bnd _ fun r => truth r) fun b => _)
    simp only [M.assoc]
  show (M.bnd (evI G false it env) fun xs => if ownFree env own = true then (M.bnd (lcGo (fun x => (M.nox (M.bnd (M.of (bindTg tg x (wipeE env own))) fun e => M.bnd (ev G true cond e) fun r => M.bnd (truth r) fun b => if b = true then (do let y ← datOf (← ev G true elt e); M.ret (some y)) else M.ret none))) xs) _) else M.non) = _
  simp only [he]
  rfl
/-- `_law_result(lambda: ..)` -/
def ResOk (nm : Nm) (Gs : Nat → List Int → Fun) (CX : CXT) : Prop := ∀ (c : CE) (X : Cx) (τ : Tn) (B : Addr → Prop) (E : XK), Fx nm Gs CX X τ E → ∀ e, ck nm X.env.scope (.res c) e = true → ∀ md, PE X e (tD (arOf X τ B E) md (ev (GG Gs τ) md (.res c)))
section
variable {nm : Nm} {Gs : Nat → List Int → Fun} {CX : CXT} (HR : ResOk nm Gs CX)
include HR
mutual
theorem snE0 : ∀ (c : CE) (X : Cx) (τ : Tn) (B : Addr → Prop) (E : XK), Fx nm Gs CX X τ E → ∀ e, ck nm X.env.scope c e = true → Both Gs X τ B E c e
  | .cst d, X, τ, B, E, F, e, h => by
    simp only [ck] at h; split at h <;> try (cases h; done)
    exact .of (fun md => cst_ok h) (fun _ => rfl)
  | .gcon x d, X, τ, B, E, F, e, h => by
    simp only [ck] at h; split at h <;> try (cases h; done)
    simp only [Bool.and_eq_true, beq_iff_eq] at h
    obtain ⟨⟨⟨rfl, h1⟩, h2⟩, h3⟩ := h
    split at h3 <;> try (cases h3; done)
    rename_i d' hd
    have h3 := sameD_eq _ _ h3
    subst h3
    obtain ⟨v, ⟨u, hu, ru⟩, hv⟩ := F.cn _ _ hd
    exact .of (fun md => sn_val (pe_glob (show Gl X _ from glB_of h1) hu ru (dbg_of h2).1) fun S H => hv S H) (fun _ => rfl)
  | .fnc i, X, τ, B, E, F, e, h => by
    simp only [ck] at h; split at h <;> try (cases h; done)
    simp only [Bool.and_eq_true, beq_iff_eq] at h
    obtain ⟨⟨h1, h2⟩, h3⟩ := h
    exact .of (fun md => sn_val (pe_glob (v := .ref (τ.fa i)) (show Gl X _ from glB_of h1) (F.fn _ _ h3 h2).mg rfl (dbg_of h2).1) fun S H => rfl) (fun _ => rfl)
  | .var i, X, τ, B, E, F, e, h => by
    simp only [ck] at h; split at h <;> try (cases h; done)
    simp only [Bool.and_eq_true, beq_iff_eq] at h
    obtain ⟨⟨h1, h2⟩, h3⟩ := h
    exact .of (fun md => sn_var (by rw [F.N]; exact h1) (visB_of h2) (dbg_of h3).1 (dbg_of h3).2 _) (fun _ => rfl)
  | .tup es, X, τ, B, E, F, e, h => by
    simp only [ck] at h; split at h <;> try (cases h; done)
    exact .of (fun md => sn_tup (snEs0 es X τ B E F _ h).a) (fun _ => rfl)
  | .lst es, X, τ, B, E, F, e, h => by
    simp only [ck] at h; split at h <;> try (cases h; done)
    exact .of (fun md => sn_lst (snEs0 es X τ B E F _ h).a) (fun _ => rfl)
  | .bin o a b, X, τ, B, E, F, e, h => by
    simp only [ck] at h; split at h <;> try (cases h; done)
    simp only [Bool.and_eq_true] at h
    obtain ⟨⟨h1, h2⟩, h3⟩ := h
    exact .of (fun md => sn_bin (boC F.gd h1) ((snE0 a X τ B E F _ h2).v false) ((snE0 b X τ B E F _ h3).v false)) (fun _ => rfl)
  | .neg a, X, τ, B, E, F, e, h => by
    simp only [ck] at h; split at h <;> try (cases h; done)
    exact .of (fun md => sn_neg ((snE0 a X τ B E F _ h).v false)) (fun _ => rfl)
  | .cmp o a b, X, τ, B, E, F, e, h => by
    simp only [ck] at h; split at h <;> try (cases h; done)
    simp only [Bool.and_eq_true] at h
    obtain ⟨⟨h1, h2⟩, h3⟩ := h
    refine ⟨fun md => sn_cmp (coC F.gd h1) ((snE0 a X τ B E F _ h2).v false) ((snE0 b X τ B E F _ h3).v false) (nomark' _ (ck_nset h3)), fun _ => ?_⟩
    refine pt_eq (sn_cmpT (coC F.gd h1) ((snE0 a X τ B E F _ h2).v false) ((snE0 b X τ B E F _ h3).v false) (nomark' _ (ck_nset h3))) fun env => ?_
    show M.bnd (M.bnd _ fun x => M.bnd _ fun y => M.bnd _ fun r => M.ret (bl r)) truth = M.bnd _ fun x => M.bnd _ fun y => _
    simp only [M.assoc, M.left, tru_bl, M.right]
  | .isN a, X, τ, B, E, F, e, h => by
    simp only [ck] at h; split at h <;> try (cases h; done)
    refine ⟨fun md => sn_isN ((snE0 a X τ B E F _ h).v false), fun _ => pt_eq (sn_isNT ((snE0 a X τ B E F _ h).v false)) fun env => ?_⟩
    show M.bnd (M.bnd _ fun x => M.bnd _ fun y => M.ret _) truth = M.bnd _ fun x => M.bnd _ fun y => M.ret _
    simp only [M.assoc, M.left, tru_bl]
  | .notN a, X, τ, B, E, F, e, h => by
    simp only [ck] at h; split at h <;> try (cases h; done)
    refine ⟨fun md => sn_notN ((snE0 a X τ B E F _ h).v false), fun _ => pt_eq (sn_notNT ((snE0 a X τ B E F _ h).v false)) fun env => ?_⟩
    show M.bnd (M.bnd _ fun x => M.bnd _ fun y => M.ret _) truth = M.bnd _ fun x => M.bnd _ fun y => M.ret _
    simp only [M.assoc, M.left, tru_bl]
  | .chn a b c, X, τ, B, E, F, e, h => by
    simp only [ck] at h; split at h <;> try (cases h; done)
    simp only [Bool.and_eq_true] at h
    obtain ⟨⟨h1, h2⟩, h3⟩ := h
    have k1 := (snE0 a X τ B E F _ h1).v false
    have k2 := (snE0 b X τ B E F _ h2).v false
    have k3 := (snE0 c X τ B E F _ h3).v false
    refine ⟨fun md => sn_chn k1 k2 k3, fun _ => pt_eq (sn_chnT k1 k2 k3) fun env => ?_⟩
    funext s
    show M.bnd (M.bnd _ fun x => M.bnd _ fun x => M.bnd _ fun y => M.bnd _ fun y => if x ≤ y then (M.bnd _ fun z => M.bnd _ fun z => M.ret _) else M.ret _) truth s = (M.bnd _ fun x => M.bnd _ fun x => M.bnd _ fun y => M.bnd _ fun y => if x ≤ y then (M.bnd _ fun z => M.bnd _ fun z => M.ret _) else M.ret _) s
    simp only [M.assoc]
    congr 1
    congr 1; funext x
    congr 1; funext x
    congr 1; funext y
    congr 1; funext y
    by_cases hc : x ≤ y
    · rw [if_pos hc, if_pos hc]
      simp only [M.assoc, M.left, tru_bl]
    · rw [if_neg hc, if_neg hc]
      rfl
  | .and es, X, τ, B, E, F, e, h => by
    simp only [ck] at h; split at h <;> try (cases h; done)
    simp only [Bool.and_eq_true] at h
    obtain ⟨h1, h2⟩ := h
    have k := snEs0 es X τ B E F _ h1
    rename_i l pos
    have hl : l ≠ [] := fun z => by rw [z] at h2; cases h2
    refine ⟨fun md => k.an hl _ md, fun hn => pt_eq (k.anT hl hn _).pt fun env => ?_⟩
    show M.bnd (M.bnd _ fun r => M.ret (bl r)) truth = _
    simp only [M.assoc, M.left, tru_bl, M.right]
  | .or es, X, τ, B, E, F, e, h => by
    simp only [ck] at h; split at h <;> try (cases h; done)
    simp only [Bool.and_eq_true] at h
    obtain ⟨h1, h2⟩ := h
    have k := snEs0 es X τ B E F _ h1
    rename_i l pos
    have hl : l ≠ [] := fun z => by rw [z] at h2; cases h2
    refine ⟨fun md => k.or hl _ md, fun hn => pt_eq (k.orT hl hn _).pt fun env => ?_⟩
    show M.bnd (M.bnd _ fun r => M.ret (bl r)) truth = _
    simp only [M.assoc, M.left, tru_bl, M.right]
  | .not a, X, τ, B, E, F, e, h => by
    simp only [ck] at h; split at h <;> try (cases h; done)
    have k := snE0 a X τ B E F _ h
    refine ⟨fun md => sn_not (k.v true), fun hn => pt_eq (sn_notT (k.t hn)) fun env => ?_⟩
    show M.bnd (M.bnd _ fun x => M.bnd _ fun r => M.ret (bl !r)) truth = M.bnd (M.bnd _ fun x => _) fun r => M.ret !r
    simp only [M.assoc, M.left, tru_bl]
  | .ite c a b, X, τ, B, E, F, e, h => by
    simp only [ck] at h; split at h <;> try (cases h; done)
    simp only [Bool.and_eq_true] at h
    obtain ⟨⟨⟨h0, h1⟩, h2⟩, h3⟩ := h
    refine ⟨fun md => pe_eq (sn_ite ((snE0 c X τ B E F _ h1).t h0) ((snE0 a X τ B E F _ h2).v md) ((snE0 b X τ B E F _ h3).v md)) fun env => ?_, fun hn => absurd hn (by simp [noIte])⟩
    show M.bnd _ (fun x => M.bnd _ fun r => _) = M.bnd (M.bnd _ fun x => _) fun r => _
    simp only [M.assoc]
  | .idx a b, X, τ, B, E, F, e, h => by
    simp only [ck] at h; split at h <;> try (cases h; done)
    simp only [Bool.and_eq_true, Bool.not_eq_true'] at h
    obtain ⟨⟨h1, h2⟩, h3⟩ := h
    exact .of (fun md => sn_idx F.gd ((snE0 a X τ B E F _ h1).v false) ((snE0 b X τ B E F _ h2).v false) h3) (fun _ => rfl)
  | .slL a lo, X, τ, B, E, F, e, h => by
    simp only [ck] at h; split at h <;> try (cases h; done)
    simp only [Bool.and_eq_true] at h
    exact .of (fun md => sn_slL ((snE0 a X τ B E F _ h.1).v false) ((snE0 lo X τ B E F _ h.2).v false)) (fun _ => rfl)
  | .slH a hi, X, τ, B, E, F, e, h => by
    simp only [ck] at h; split at h <;> try (cases h; done)
    simp only [Bool.and_eq_true] at h
    exact .of (fun md => sn_slH ((snE0 a X τ B E F _ h.1).v false) ((snE0 hi X τ B E F _ h.2).v false)) (fun _ => rfl)
  | .sl2 a lo hi, X, τ, B, E, F, e, h => by
    simp only [ck] at h; split at h <;> try (cases h; done)
    simp only [Bool.and_eq_true] at h
    obtain ⟨⟨h1, h2⟩, h3⟩ := h
    exact .of (fun md => sn_sl2 ((snE0 a X τ B E F _ h1).v false) ((snE0 lo X τ B E F _ h2).v false) ((snE0 hi X τ B E F _ h3).v false)) (fun _ => rfl)
  | .slR a, X, τ, B, E, F, e, h => by
    simp only [ck] at h; split at h <;> try (cases h; done)
    exact .of (fun md => sn_slR ((snE0 a X τ B E F _ h).v false)) (fun _ => rfl)
  | .lc own tg it elt, X, τ, B, E, F, e, h => by
    simp only [ck] at h; split at h <;> try (cases h; done)
    simp only [Bool.and_eq_true] at h
    obtain ⟨⟨⟨⟨h1, h2⟩, h3⟩, h4⟩, h5⟩ := h
    obtain ⟨p1, p2⟩ := lc_parts (B := B) (E := E) F h3 fun X' B' E' F' hs => snE0 elt X' τ B' E' F' _ (by rw [hs]; exact h5)
    exact .of (fun md => sn_lc (mt := fun _ => M.ret true) F.gd.calm F.gd.nd F.N (snI0 it X τ B E F _ _ h4 false) h1 h2 p1 lc_yes p2 (ckI_fold h4)) (fun _ => rfl)
  | .lcIf own tg it cond elt, X, τ, B, E, F, e, h => by
    simp only [ck] at h; split at h <;> try (cases h; done)
    simp only [Bool.and_eq_true] at h
    obtain ⟨⟨⟨⟨⟨⟨h1, h2⟩, h3⟩, h4⟩, h5⟩, h6⟩, h7⟩ := h
    obtain ⟨p1, p2⟩ := lc_parts (B := B) (E := E) F h3 fun X' B' E' F' hs => snE0 elt X' τ B' E' F' _ (by rw [hs]; exact h7)
    have p3 := lc_cond (B := B) (E := E) F h5 fun X' B' E' F' hs => snE0 cond X' τ B' E' F' _ (by rw [hs]; exact h6)
    exact .of (fun md => pe_eq (sn_lc (mt := fun env => do truth (← ev (GG Gs τ) true cond env)) F.gd.calm F.gd.nd F.N (snI0 it X τ B E F _ _ h4 false) h1 h2 p1 p3 p2 (ckI_fold h4)) fun env => lcIf_ev) (fun _ => rfl)
  | .call f es, X, τ, B, E, F, e, h => by
    simp only [ck] at h; split at h <;> try (cases h; done)
    · simp only [Bool.and_eq_true, beq_iff_eq] at h
      obtain ⟨⟨⟨h1, h2⟩, h3⟩, h4⟩ := h
      rename_i x p l pos
      have k := snEs0 es X τ B E F _ h4
      cases l with
      | nil =>
        cases es with
        | nil => exact .of (fun md => sn_call0 (F.fn _ _ h3 h2) F.K F.ps (show Gl X _ from glB_of h1) (dbg_of h2).1) (fun _ => rfl)
        | cons => simp [cks] at h4
      | cons y l => exact .of (fun md => sn_call (F.fn _ _ h3 h2) F.K F.ps (show Gl X _ from glB_of h1) (dbg_of h2).1 k.a (cks_ns h4)) (fun _ => rfl)
    · rename_i x p l k ks pos
      simp only [Bool.and_eq_true] at h
      obtain ⟨⟨h1, h2⟩, h3⟩ := h
      split at h3 <;> try (cases h3; done)
      rename_i ws ns e1 e2
      simp only [Bool.and_eq_true, beq_iff_eq] at h3
      obtain ⟨⟨q1, q2⟩, q3⟩ := h3
      exact .of (fun md => sn_callKw (F.kw _ _ _ _ q1 q2 h2) F.K F.ps (show Gl X _ from glB_of h1) (dbg_of h2).1 e1 e2 (snEs0 es X τ B E F _ q3).each) (fun _ => rfl)
  | .callv i fs es, X, τ, B, E, F, e, h => by
    simp only [ck] at h; split at h <;> try (cases h; done)
    rename_i x p l pos
    simp only [Bool.and_eq_true, beq_iff_eq] at h
    obtain ⟨⟨⟨⟨⟨h1, h2⟩, h3⟩, h4⟩, h5⟩, h6⟩ := h
    cases l with
    | nil => cases h4
    | cons y l =>
      refine .of (fun md => sn_callv (fun f hf => ?_) F.K F.ps (by rw [F.N]; exact h1) (visB_of h2) (dbg_of h3).1 (dbg_of h3).2 (snEs0 es X τ B E F _ h6).a (cks_ns h6)) (fun _ => rfl)
      have z := List.all_eq_true.mp h5 f hf
      split at z
      · exact ⟨_, F.fn _ _ (by assumption) z⟩
      · cases z
  | .p1 p a, X, τ, B, E, F, e, h => by
    simp only [ck] at h; split at h <;> try (cases h; done)
    simp only [Bool.and_eq_true] at h
    obtain ⟨h1, h2⟩ := h
    obtain ⟨q, rfl, hg⟩ := isNm_of h1
    exact .of (fun md => p1_ok F.gd F.bi hg ((snE0 a X τ B E F _ h2).v false) (ck_ns h2)) (fun _ => rfl)
  | .lrng a, X, τ, B, E, F, e, h => by
    simp only [ck] at h; split at h <;> try (cases h; done)
    simp only [Bool.and_eq_true] at h
    obtain ⟨⟨h1, h2⟩, h3⟩ := h
    obtain ⟨q, rfl, hg⟩ := isNm_of h1
    obtain ⟨q2, rfl, hg2⟩ := isNm_of h2
    exact .of (fun md => sn_lrng F.gd hg (F.bi _ (by decide)) hg2 (F.bi _ (by decide)) ((snE0 a X τ B E F _ h3).v false) (ck_ns h3)) (fun _ => rfl)
  | .trng a, X, τ, B, E, F, e, h => by
    simp only [ck] at h; split at h <;> try (cases h; done)
    simp only [Bool.and_eq_true] at h
    obtain ⟨⟨h1, h2⟩, h3⟩ := h
    obtain ⟨q, rfl, hg⟩ := isNm_of h1
    obtain ⟨q2, rfl, hg2⟩ := isNm_of h2
    exact .of (fun md => sn_trng F.gd hg (F.bi _ (by decide)) hg2 (F.bi _ (by decide)) ((snE0 a X τ B E F _ h3).v false) (ck_ns h3)) (fun _ => rfl)
  | .isi a t, X, τ, B, E, F, e, h => by
    simp only [ck] at h; split at h <;> try (cases h; done)
    simp only [Bool.and_eq_true] at h
    obtain ⟨⟨h1, h2⟩, h3⟩ := h
    obtain ⟨q, rfl, hg⟩ := isNm_of h1
    obtain ⟨q2, rfl, hg2⟩ := isNm_of h2
    exact .of (fun md => sn_isi hg (F.bi _ (by decide)) hg2 (F.bi _ (by cases t <;> decide)) ((snE0 a X τ B E F _ h3).v false) (ck_ns h3)) (fun _ => rfl)
  | .meth m a b, X, τ, B, E, F, e, h => by simp [ck] at h
  | .dget d k x, X, τ, B, E, F, e, h => by
    simp only [ck] at h; split at h <;> try (cases h; done)
    simp only [Bool.and_eq_true, beq_iff_eq] at h
    obtain ⟨⟨⟨⟨rfl, h1⟩, h2⟩, h3⟩, h4⟩ := h
    have a1 := ck_ns h3
    have a2 := ck_ns h4
    exact .of (fun md => sn_dget F.gd ((snE0 d X τ B E F _ h2).v false) ((snE0 k X τ B E F _ h3).v true) ((snE0 x X τ B E F _ h4).v true) ⟨rfl, by rw [star1 a1, star1 a2]; rfl, beq_iff_eq.mpr h1, by rw [star1 a1, star1 a2]; rfl⟩) (fun _ => rfl)
  | .ssort a, X, τ, B, E, F, e, h => by
    simp only [ck] at h; split at h <;> try (cases h; done)
    simp only [Bool.and_eq_true] at h
    obtain ⟨⟨h1, h2⟩, h3⟩ := h
    obtain ⟨q, rfl, hg⟩ := isNm_of h1
    obtain ⟨q2, rfl, hg2⟩ := isNm_of h2
    exact .of (fun md => sn_ssort F.gd hg (F.bi _ (by decide)) hg2 (F.bi _ (by decide)) ((snE0 a X τ B E F _ h3).v false) (ck_ns h3)) (fun _ => rfl)
  | .min2 a b, X, τ, B, E, F, e, h => by
    simp only [ck] at h; split at h <;> try (cases h; done)
    simp only [Bool.and_eq_true] at h
    obtain ⟨⟨h1, h2⟩, h3⟩ := h
    obtain ⟨q, rfl, hg⟩ := isNm_of h1
    exact .of (fun md => sn_min2 F.gd hg (F.bi _ (by decide)) ((snE0 a X τ B E F _ h2).v true) ((snE0 b X τ B E F _ h3).v true) (ck_ns h2) (ck_ns h3)) (fun _ => rfl)
  | .lset a, X, τ, B, E, F, e, h => by
    simp only [ck] at h; split at h <;> try (cases h; done)
    simp only [Bool.and_eq_true] at h
    obtain ⟨⟨h1, h2⟩, h3⟩ := h
    obtain ⟨q, rfl, hg⟩ := isNm_of h1
    obtain ⟨q2, rfl, hg2⟩ := isNm_of h2
    exact .of (fun md => sn_lset F.gd hg (F.bi _ (by decide)) hg2 (F.bi _ (by decide)) ((snE0 a X τ B E F _ h3).v false) (ck_ns h3)) (fun _ => rfl)
  | .dke a, X, τ, B, E, F, e, h => by
    simp only [ck] at h; split at h <;> try (cases h; done)
    simp only [Bool.and_eq_true] at h
    obtain ⟨h1, h2⟩ := h
    obtain ⟨q, rfl, hg⟩ := isNm_of h1
    exact .of (fun md => (sn_dkeF F.gd hg (F.bi _ (by decide)) ((snE0 a X τ B E F _ h2).v false) (ck_ns h2)).imp fun σ H Q z => tDF_of z) (fun _ => rfl)
  | .lenum a, X, τ, B, E, F, e, h => by
    simp only [ck] at h; split at h <;> try (cases h; done)
    simp only [Bool.and_eq_true] at h
    obtain ⟨⟨h1, h2⟩, h3⟩ := h
    obtain ⟨q, rfl, hg⟩ := isNm_of h1
    obtain ⟨q2, rfl, hg2⟩ := isNm_of h2
    exact .of (fun md => sn_lenum F.gd hg (F.bi _ (by decide)) hg2 (F.bi _ (by decide)) ((snE0 a X τ B E F _ h3).v false) (ck_ns h3)) (fun _ => rfl)
  | .dnew, X, τ, B, E, F, e, h => by
    simp only [ck] at h; split at h <;> try (cases h; done)
    exact .of (fun md => sn_dnewF.imp fun σ H Q z => tDF_of z) (fun _ => rfl)
  | .done k v, X, τ, B, E, F, e, h => by
    simp only [ck] at h; split at h <;> try (cases h; done)
    simp only [Bool.and_eq_true] at h
    exact .of (fun md => (sn_doneF F.gd ((snE0 k X τ B E F _ h.1).v true) ((snE0 v X τ B E F _ h.2).v true)).imp fun σ H Q z => tDF_of z) (fun _ => rfl)
  | .res x, X, τ, B, E, F, e, h => by
    refine ⟨fun md => HR x X τ B E F e h md, fun _ => sn_tt (HR x X τ B E F e h true) ?_⟩
    simp only [ck] at h; split at h <;> try (cases h; done)
    exact fun _ => rfl
theorem snEs0 : ∀ (es : CEs) (X : Cx) (τ : Tn) (B : Addr → Prop) (E : XK), Fx nm Gs CX X τ E → ∀ l, cks nm X.env.scope es l = true → Many Gs X τ B E es l
  | .nil, X, τ, B, E, F, l, h => by
    cases l with
    | nil => exact ⟨sn_nil, fun z => absurd rfl z, fun z => absurd rfl z, fun z => absurd rfl z, fun z => absurd rfl z, .nil⟩
    | cons => simp [cks] at h
  | .cons c r, X, τ, B, E, F, l, h => by
    cases l with
    | nil => simp [cks] at h
    | cons e l =>
      simp only [cks, Bool.and_eq_true] at h
      have k1 := snE0 c X τ B E F e h.1
      have k2 := snEs0 r X τ B E F l h.2
      refine ⟨sn_cons (k1.v true) k2.a (star1 (ck_ns h.1)), fun _ pos md => ?_, fun _ pos md => ?_, fun _ hn pos => ?_, fun _ hn pos => ?_, .cons (k1.v true) (ck_ns h.1) k2.each⟩
      · cases l with
        | nil =>
          cases r with
          | nil => exact sn_and1 (k1.v true)
          | cons => simp [cks] at h
        | cons e2 l => exact sn_and (k1.v true) (k2.an (by simp) pos true)
      · cases l with
        | nil =>
          cases r with
          | nil => exact sn_or1 (k1.v true)
          | cons => simp [cks] at h
        | cons e2 l => exact sn_or (k1.v true) (k2.or (by simp) pos true)
      · simp only [noItes, Bool.and_eq_true] at hn
        have ht := k1.t hn.1
        cases l with
        | nil =>
          cases r with
          | nil =>
            have := sn_andT1 (pos := pos) ht
            refine ⟨fun wh pins s σ H Q I z => this.run wh pins s σ H Q I ?_⟩
            exact (by simpa only [evAnd, M.assoc, bind] using z)
          | cons => simp [cks] at h
        | cons e2 l =>
          have := sn_andT ht (k2.anT (by simp) hn.2 pos)
          refine ⟨fun wh pins s σ H Q I z => this.run wh pins s σ H Q I ?_⟩
          exact (by simpa only [evAnd, M.assoc, bind] using z)
      · simp only [noItes, Bool.and_eq_true] at hn
        have ht := k1.t hn.1
        cases l with
        | nil =>
          cases r with
          | nil =>
            have := sn_orT1 (pos := pos) ht
            refine ⟨fun wh pins s σ H Q I z => this.run wh pins s σ H Q I ?_⟩
            exact (by simpa only [evOr, M.assoc, bind] using z)
          | cons => simp [cks] at h
        | cons e2 l =>
          have := sn_orT ht (k2.orT (by simp) hn.2 pos)
          refine ⟨fun wh pins s σ H Q I z => this.run wh pins s σ H Q I ?_⟩
          exact (by simpa only [evOr, M.assoc, bind] using z)
theorem snI0 : ∀ (c : CI) (X : Cx) (τ : Tn) (B : Addr → Prop) (E : XK), Fx nm Gs CX X τ E → ∀ e t, ckI nm X.env.scope c e t = true → ∀ md, PI X t e (tI (arOf X τ B E) md (evI (GG Gs τ) md c))
  | .seq c, X, τ, B, E, F, e, t, h, md => by
    simp only [ckI] at h
    exact sn_seqI ((snE0 c X τ B E F _ h).v md)
  | .rng c, X, τ, B, E, F, e, t, h, md => by
    simp only [ckI] at h; split at h <;> try (cases h; done)
    simp only [Bool.and_eq_true] at h
    obtain ⟨q, rfl, hg⟩ := isNm_of h.1
    exact sn_rng hg (F.bi _ (by decide)) ((snE0 c X τ B E F _ h.2).v true) (ck_ns h.2)
  | .enum c, X, τ, B, E, F, e, t, h, md => by
    simp only [ckI] at h; split at h <;> try (cases h; done)
    simp only [Bool.and_eq_true] at h
    obtain ⟨q, rfl, hg⟩ := isNm_of h.1
    exact sn_enum hg (F.bi _ (by decide)) ((snE0 c X τ B E F _ h.2).v true) (ck_ns h.2)
  | .zip a b, X, τ, B, E, F, e, t, h, md => by
    simp only [ckI] at h; split at h <;> try (cases h; done)
    simp only [Bool.and_eq_true] at h
    obtain ⟨⟨h1, h2⟩, h3⟩ := h
    obtain ⟨q, rfl, hg⟩ := isNm_of h1
    exact sn_zip hg (F.bi _ (by decide)) ((snE0 a X τ B E F _ h2).v true) ((snE0 b X τ B E F _ h3).v true) (ck_ns h2) (ck_ns h3)
  | .keys c, X, τ, B, E, F, e, t, h, md => by
    simp only [ckI] at h
    exact sn_keysI ((snE0 c X τ B E F _ h).v md)
end
end
section
variable {nm : Nm} {Gs : Nat → List Int → Fun} {CX : CXT}
theorem res_flat : ResOk nm.flat Gs CX := fun c X τ B E F e h md => by
  simp only [ck] at h; split at h <;> try (cases h; done)
  simp only [Bool.and_eq_true] at h
  cases h.2
theorem res_ok : ResOk nm Gs CX := fun c X τ B E F e h md => by
  simp only [ck] at h; split at h <;> try (cases h; done)
  simp only [Bool.and_eq_true, beq_iff_eq] at h
  obtain ⟨⟨⟨⟨rfl, h1⟩, h2⟩, h3⟩, h4⟩ := h
  obtain ⟨h5, _⟩ := F.lm _ _ _ h4
  exact sn_res F (fun X' E' F' hs => (snE0 res_flat c X' τ B E' F' _ (by rw [hs]; exact h5)).v true) h1 h2 h3 h4
theorem snE (c : CE) (X : Cx) (τ : Tn) (B : Addr → Prop) (E : XK) (F : Fx nm Gs CX X τ E) (e : Expr) (h : ck nm X.env.scope c e = true) : Both Gs X τ B E c e := snE0 res_ok c X τ B E F e h
theorem snEs (es : CEs) (X : Cx) (τ : Tn) (B : Addr → Prop) (E : XK) (F : Fx nm Gs CX X τ E) (l : List Expr) (h : cks nm X.env.scope es l = true) : Many Gs X τ B E es l := snEs0 res_ok es X τ B E F l h
theorem snI (c : CI) (X : Cx) (τ : Tn) (B : Addr → Prop) (E : XK) (F : Fx nm Gs CX X τ E) (e t : Expr) (h : ckI nm X.env.scope c e t = true) (md : Bool) : PI X t e (tI (arOf X τ B E) md (evI (GG Gs τ) md c)) := snI0 res_ok c X τ B E F e t h md
end
end BK
set_option Elab.async false
set_option linter.all false
set_option maxRecDepth 100000
set_option maxHeartbeats 4000000
/-! The small language says the truth: statements, defs. -/
namespace BK
open PySem L2
section
variable {X : Cx} {τ : Tn} {B : Addr → Prop} {E : XK} {pos : Pos}
/-! ### several names at once -/
def setS : List (Bool × Nat) → List V → L2.St → L2.St
  | t :: ts, v :: vs, σ => setS ts vs (σ.set t.2 (some v))
  | _, _, σ => σ
/-- what is to be read of the values, from the stores so far on -/
def tPar (X : Cx) (τ : Tn) (B : Addr → Prop) (E : XK) (ts : List (Bool × Nat)) (ms : Env → M (List D)) : TA := fun σ H Q => ∃ (env env1 : Env) (σ1 : L2.St) (B1 : Addr → Prop) (s : Twn),
  Rep X.prog X.w X.K τ B1 env σ H ∧ Rep X.prog X.w X.K τ B env1 σ1 H ∧ (∀ b, Av B env1 σ1 b → Av B1 env σ b) ∧ TownR τ H s ∧
  Wp (ms env s) (fun ds s' => ∀ vs H', Pst (arOf X τ B E) env1 σ1 H (parE ts ds env1) (setS ts vs σ1) H' → TownR τ H' s' → vs.length = ds.length → Q vs H') fun c s' => ∀ H', Xt τ H H' → TownR τ H' s' → E (τ.cl c) none H'
/-- one value, to be kept or to be written on -/
def tPv (X : Cx) (τ : Tn) (E : XK) (fl : Bool) (m : Env → M D) : TE := fun σ H Q => ∃ B, if fl = true then tDF (arOf X τ B E) m σ H Q else tD (arOf X τ B E) true m σ H Q
theorem pv_own {e : Expr} {m : Env → M D} (h : ∀ B, PE X e (tDF (arOf X τ B E) m)) : PE X e (tPv X τ E true m) := ⟨fun pins s σ H Q I ⟨B, z⟩ => (h B).run pins s σ H Q I (by rw [if_pos rfl] at z; exact z)⟩
theorem pv_keep {e : Expr} {m : Env → M D} (h : ∀ B, PE X e (tD (arOf X τ B E) true m)) : PE X e (tPv X τ E false m) := ⟨fun pins s σ H Q I ⟨B, z⟩ => (h B).run pins s σ H Q I (by rw [if_neg Bool.false_ne_true] at z; exact z)⟩
theorem par_nil {ts : List (Bool × Nat)} : PA X [] (tPar X τ B E ts fun _ => M.ret []) := pa_nil.imp fun σ H Q ⟨env, env1, σ1, B1, s, R, R1, hi, t, h⟩ => by
  refine h [] H ?_ t rfl
  cases ts <;> exact Pst.refl R1
theorem own_set {env : Env} {σ : L2.St} {i : Nat} {p : Addr} {d : D} : ∀ b, Own (env.set i (some (true, d))) (σ.set i (some (.ref p))) b → Own env σ b ∨ b = p := fun b ⟨j, e, h1, h2⟩ => by
  rcases set_get h2 with ⟨rfl, z⟩ | ⟨hj, h2⟩
  · cases z
    exact .inr rfl
  · rcases set_get h1 with ⟨z, _⟩ | ⟨_, h1⟩
    · exact absurd z hj
    · exact .inl ⟨j, e, h1, h2⟩
theorem par_cons {t : Bool × Nat} {ts : List (Bool × Nat)} {e : Expr} {l : List Expr} {m : Env → M D} {ms : Env → M (List D)} (h : PE X e (tPv X τ E t.1 m)) (hs : PA X l (tPar X τ B E ts ms)) (hst : starEach (e :: l) X.env = (false, eval e X.env) :: starEach l X.env) :
    PA X (e :: l) (tPar X τ B E (t :: ts) fun env => do let x ← m env; let xs ← ms env; M.ret (x :: xs)) := by
  obtain ⟨fl, i⟩ := t
  refine (pa_cons h hs hst).imp fun σ H Q ⟨env, env1, σ1, B1, s, R, R1, hi, t0, h⟩ => ⟨B1, ?_⟩
  cases fl with
  | true =>
    rw [if_pos rfl]
    refine ⟨env, s, R, t0, Wp.mono (Wp.bnd h) (fun x s1 q H1 e1 t1 p hp hq dv => ?_) fun c s1 q H1 e1 t1 => q H1 e1 t1⟩
    have ps : Pst (arOf X τ B E) env1 σ1 H (env1.set i (some (true, x))) (σ1.set i (some (.ref p))) H1 := Pst.own1 R1 t0 e1 hp hq (Dv.mono (fun b z => z.imp (hi b) id) dv)
    refine ⟨env, env1.set i (some (true, x)), σ1.set i (some (.ref p)), fun a => B1 a ∨ a = p, s1, R.guardX t0 hp hq e1, ps.rp, fun b z => ?_, t1, Wp.mono (Wp.bnd q) (fun xs s2 q2 vs H' p2 t2 hl => q2 (.ref p :: vs) H' (ps.trans p2) t2 (by simp [hl])) fun c s2 q2 H2 e2 t2 => q2 H2 (e1.trans e2) t2⟩
    have old : Av B env1 σ1 b → Av (fun a => B1 a ∨ a = p) env σ b := fun z => (hi b z).imp .inl id
    rcases z with z | z
    · exact old (.inl z)
    · rcases own_set b z with z | z
      · exact old (.inr z)
      · exact .inl (.inr z)
  | false =>
    rw [if_neg Bool.false_ne_true]
    refine ⟨env, s, R, t0, Wp.mono (Wp.bnd h) (fun x s1 q H1 e1 t1 v dv => ?_) fun c s1 q H1 e1 t1 => q H1 e1 t1⟩
    have p0 : Pst (arOf X τ B E) env1 σ1 H env1 σ1 H1 := Pst.xt R1 t0 e1
    have dv1 : Dv X.prog X.w X.K τ (Av B env1 σ1) true H1 v x := Dv.mono hi dv
    have ps := p0.trans (Pst.set (a := arOf X τ B E) (i := i) p0.rp dv1)
    obtain ⟨_, hO⟩ := Rep.set (i := i) (R1.xt t0 e1) dv1
    refine ⟨env, setE env1 i x, σ1.set i (some v), B1, s1, R.xt t0 e1, ps.rp, fun b z => hi b (z.imp id (hO b)), t1, Wp.mono (Wp.bnd q) (fun xs s2 q2 vs H' p2 t2 hl => q2 (v :: vs) H' (ps.trans p2) t2 (by simp [hl])) fun c s2 q2 H2 e2 t2 => q2 H2 (e1.trans e2) t2⟩
theorem par_go {ts : List (Bool × Nat)} {l : List Expr} {ms : Env → M (List D)} {D : Ends} {σ : L2.St} {H : Hp} {n : Nat} {Q : List V → Hp → Prop} (hn : ts.length = n)
    (h : tS (arOf X τ B E) (fun env => do let ds ← ms env; if ds.length = ts.length then M.ret (.nx (parE ts ds env)) else M.non) D σ H) (q : ∀ vs H', vs.length = n → (∀ H'', Al H' H'' → D.nx (setS ts vs σ) H'') → Q vs H') : tPar X τ B E ts ms σ H Q := by
  obtain ⟨env, s, R, t, h⟩ := h
  refine ⟨env, env, σ, B, s, R, R, fun _ z => z, t, Wp.mono (Wp.bnd h) (fun ds s1 z vs H' p t' hl => ?_) fun c s1 z H' e t' => z H' (e.mono fun _ y => .inl y) t'⟩
  obtain ⟨hl2, z⟩ := Wp.ifN z
  exact q vs H' (hl.trans (hl2.trans hn)) fun H'' al => z _ H'' (p.trans (Pst.xt p.rp t' al.xt)) (al.town t')
theorem ss_par2 {f1 f2 : Bool} {i j : Nat} {x y : Str} {a b : Expr} {ms : Env → M (List D)} {px py pt : Pos} {kt k2 : Nat} {pt2 : Pos} (g : Gd X) (hi : X.N[i]? = some x) (hj : X.N[j]? = some y) (hij : i ≠ j)
    (hx : X.env.scope.names.lookup x = some .local) (hy : X.env.scope.names.lookup y = some .local) (ha : PA X [a, b] (tPar X τ B E [(f1, i), (f2, j)] ms))
    (hw : swappedStores [.Tuple [.Name x px, .Name y py] kt pt] (.Tuple [a, b] k2 pt2) X.env = pure (some [x, y])) :
    PS X (.Assign [.Tuple [.Name x px, .Name y py] kt pt] (.Tuple [a, b] k2 pt2) pos) (tS (arOf X τ B E) fun env => do let ds ← ms env; if ds.length = 2 then M.ret (.nx (parE [(f1, i), (f2, j)] ds env)) else M.non) := by
  refine (ps_par g.calm g.nd hi hj hij hx hy ha hw rfl).imp fun D σ H h => ?_
  refine par_go (l := [a, b]) (n := 2) rfl h fun vs H' hl q => ?_
  match vs, hl with
  | [v, w], _ => exact ⟨v, w, rfl, q H' (Al.refl H')⟩
theorem ss_par3 {f1 f2 f3 : Bool} {i j k : Nat} {x y z : Str} {a b c : Expr} {ms : Env → M (List D)} {px py pz pt : Pos} {kt k2 : Nat} {pt2 : Pos} (g : Gd X) (hi : X.N[i]? = some x) (hj : X.N[j]? = some y) (hk : X.N[k]? = some z) (hij : i ≠ j) (hik : i ≠ k) (hjk : j ≠ k)
    (hx : X.env.scope.names.lookup x = some .local) (hy : X.env.scope.names.lookup y = some .local) (hz : X.env.scope.names.lookup z = some .local) (ha : PA X [a, b, c] (tPar X τ B E [(f1, i), (f2, j), (f3, k)] ms))
    (hw : swappedStores [.Tuple [.Name x px, .Name y py, .Name z pz] kt pt] (.Tuple [a, b, c] k2 pt2) X.env = pure (some [x, y, z])) :
    PS X (.Assign [.Tuple [.Name x px, .Name y py, .Name z pz] kt pt] (.Tuple [a, b, c] k2 pt2) pos) (tS (arOf X τ B E) fun env => do let ds ← ms env; if ds.length = 3 then M.ret (.nx (parE [(f1, i), (f2, j), (f3, k)] ds env)) else M.non) := by
  refine (ps_par3 g.calm g.nd hi hj hk hij hik hjk hx hy hz ha hw rfl).imp fun D σ H h => ?_
  refine par_go (l := [a, b, c]) (n := 3) rfl h fun vs H' hl q => ?_
  match vs, hl with
  | [u, v, w], _ => exact ⟨u, v, w, rfl, q H' (Al.refl H')⟩
/-- the names one by one, from the left -/
theorem pgs_names {nm : Nm} (g : Gd X) (hN : X.N = nm.N) (hf : ∀ x, X.fn x = true) : ∀ (ts : List (Bool × Nat)) (es : List Expr), ckTgs nm (fun _ => true) X.env.scope (ts.map fun t => Tg.v t.2) es = true →
    PGs X es (fun vs σ H Q => vs.length = ts.length ∧ Q (setS ts vs σ) H) ∧ (assignEach es X.env).length = es.length ∧ (assignEach es X.env).findIdx? (·.1) = none ∧ es.length = ts.length
  | [], es, h => by
    cases es with
    | nil =>
      refine ⟨⟨fun pins s σ H vs us Q I r ⟨hl, hq⟩ => pgs_nil.run pins s σ H vs us Q I r ⟨List.eq_nil_of_length_eq_zero hl, ?_⟩⟩, rfl, rfl, rfl⟩
      cases vs <;> exact hq
    | cons => simp [ckTgs] at h
  | t :: ts, es, h => by
    cases es with
    | nil => simp [ckTgs] at h
    | cons e es =>
      simp only [List.map_cons, ckTgs, Bool.and_eq_true] at h
      obtain ⟨h2, h3, h4, h5⟩ := pgs_names g hN hf ts es h.2
      have h1 := h.1
      cases e with
      | Name x p =>
        simp only [ckTg, Bool.and_eq_true] at h1
        obtain ⟨⟨a1, a2⟩, _⟩ := h1
        have ea := asg_each (e := .Name x p) (es := es) (env := X.env) rfl
        have k : PG X (.Name x p) (gName t.2) := pg_name g.nd (by rw [hN]; exact nodupN a1) (locB_of a2) (.inl (hf x))
        refine ⟨⟨fun pins s σ H vs us Q I r ⟨hl, hq⟩ => (pgs_cons k h2 (by rw [ea]; rfl)).run pins s σ H vs us Q I r ?_⟩, by rw [ea]; simp [h3], by rw [ea, List.findIdx?_cons]; simp [h4], by simp [h5]⟩
        match vs, hl, hq with
        | v :: vs, hl, hq => exact ⟨v, vs, rfl, by simpa using hl, hq⟩
      | _ => simp [ckTg] at h1
theorem ss_parN {nm : Nm} {ts : List (Bool × Nat)} {es l : List Expr} {ms : Env → M (List D)} {k k2 : Nat} {p p2 : Pos} (g : Gd X) (hN : X.N = nm.N) (hf : ∀ x, X.fn x = true) (hc : ckTgs nm (fun _ => true) X.env.scope (ts.map fun t => Tg.v t.2) es = true) (hs : ts.length ≤ 1000)
    (ha : PA X l (tPar X τ B E ts ms)) (hw : swappedStores [.Tuple es k p] (.Tuple l k2 p2) X.env = pure none) :
    PS X (.Assign [.Tuple es k p] (.Tuple l k2 p2) pos) (tS (arOf X τ B E) fun env => do let ds ← ms env; if ds.length = ts.length then M.ret (.nx (parE ts ds env)) else M.non) := by
  obtain ⟨h2, h3, h4, h5⟩ := pgs_names g hN hf ts es hc
  refine (ps_asg (pe_tup ha) (pg_tup (n := es.length) g.calm h2 h3 h4) rfl hw rfl).imp fun D σ H h => ?_
  refine par_go (l := l) (n := ts.length) rfl h fun vs H' hl q => ⟨?_, fun a na => ?_⟩
  · rw [hl, sizeLine_eq]
    omega
  · exact ⟨a, vs, rfl, .inl (.inl upd_same), hl.trans h5.symm, hl, q _ (Al.new na)⟩
/-- one name at least is no plain local: the stores are not swapped -/
theorem swC {ts vs : List Expr} {kt k2 : Nat} {pt pt2 : Pos} {env : PySem.Env} (h : (ts.any fun e => match e with | .Name x _ => !(env.scope.names.lookup x == some .local) | _ => true) = true) : swappedStores [.Tuple ts kt pt] (.Tuple vs k2 pt2) env = pure none := by
  have key : ∀ (f : Expr → Option Str) (ts : List Expr), (∃ e ∈ ts, f e = none) → ((ts.filterMap f).length != ts.length) = true := by
    intro f ts ⟨e, he, hn⟩
    have : (ts.filterMap f).length < ts.length := by
      induction ts with
      | nil => cases he
      | cons x xs ih =>
        rcases List.mem_cons.mp he with rfl | he
        · rw [List.filterMap_cons_none hn]
          have := List.length_filterMap_le f xs
          simp only [List.length_cons]
          omega
        · have := ih he
          cases hx : f x with
          | none => rw [List.filterMap_cons_none hx]; simp only [List.length_cons]; omega
          | some y => rw [List.filterMap_cons_some hx]; simp only [List.length_cons]; omega
    rw [bne_iff_ne]
    omega
  obtain ⟨e, he, hx⟩ := List.any_eq_true.mp h
  unfold swappedStores
  dsimp only
  split
  · rfl
  · split
    · rfl
    · refine if_pos ?_
      rw [Bool.or_eq_true]
      refine .inl (key _ ts ⟨e, he, ?_⟩)
      cases e with
      | Name x p =>
        dsimp only
        refine if_neg fun z => ?_
        rw [Bool.and_eq_true] at z
        have z1 := z.1
        have : env.kindOf x = env.scope.names.lookup x := rfl
        rw [this] at z1
        dsimp only at hx
        rw [z1] at hx
        cases hx
      | _ => rfl
theorem swp2 {x y : Str} {a b : Expr} {px py pt : Pos} {kt k2 : Nat} {pt2 : Pos} {env : PySem.Env} (hk : env.blockKind = .function) (hx : env.scope.names.lookup x = some .local) (hy : env.scope.names.lookup y = some .local) (hl : (px.line == py.line) = true) (hxy : (x == y) = false)
    (ha : starred a = false) (hb : starred b = false) (hf : ([a, b].all (foldedForSure 8)) = false) (hc : ([a, b].all (constantsAlone 8)) = false) :
    swappedStores [.Tuple [.Name x px, .Name y py] kt pt] (.Tuple [a, b] k2 pt2) env = pure (some [x, y]) := by
  have kx : env.kindOf x = some .local := hx
  have ky : env.kindOf y = some .local := hy
  have hl' : (py.line == px.line) = true := by rw [eq_of_beq hl]; exact beq_self_eq_true _
  have kb : (env.blockKind != .function) = false := by rw [hk]; rfl
  have hed : ([x, y] : List Str).eraseDups = [x, y] := by
    rw [List.eraseDups_cons, List.filter_cons]
    have : (!y == x) = true := by
      rw [Bool.not_eq_true', beq_eq_false_iff_ne]
      exact fun e => (beq_eq_false_iff_ne.mp hxy) e.symm
    rw [if_pos this]
    rfl
  have hpl : (py.line == px.line) = true := hl'
  unfold swappedStores
  dsimp only
  rw [kb]
  refine (if_neg (by simp)).trans ?_
  refine (if_neg (fun h => ?_)).trans ?_
  · rw [List.any_cons, List.any_cons, List.any_nil, Bool.or_eq_true, Bool.or_eq_true] at h
    rcases h with h | h | h
    · cases a <;> first
        | (cases ha; done)
        | (cases h; done)
    · cases b <;> first
        | (cases hb; done)
        | (cases h; done)
    · cases h
  generalize hn : List.filterMap _ [Expr.Name x px, Expr.Name y py] = l
  have hl2 : l = [x, y] := by
    rw [← hn]
    have h1 : (env.kindOf x == some NameKind.local && px.line == px.line) = true := by rw [kx]; simp
    have h2 : (env.kindOf y == some NameKind.local && py.line == px.line) = true := by rw [ky, hpl]; rfl
    refine (List.filterMap_cons_some (b := x) ?_).trans (congrArg (x :: ·) ((List.filterMap_cons_some (b := y) ?_).trans rfl))
    · show (if (env.kindOf x == some NameKind.local && px.line == px.line) = true then some x else none) = some x
      rw [if_pos h1]
    · show (if (env.kindOf y == some NameKind.local && py.line == px.line) = true then some y else none) = some y
      rw [if_pos h2]
  rw [hl2, hed]
  refine (if_neg (by simp)).trans ?_
  rw [hf, hc]
  rfl

theorem swp3 {x y z : Str} {a b c : Expr} {px py pz pt : Pos} {kt k2 : Nat} {pt2 : Pos} {env : PySem.Env} (hk : env.blockKind = .function) (hx : env.scope.names.lookup x = some .local) (hy : env.scope.names.lookup y = some .local) (hz : env.scope.names.lookup z = some .local) (hl : (px.line == py.line) = true) (hl2 : (px.line == pz.line) = true) (hxy : (x == y) = false) (hxz : (x == z) = false) (hyz : (y == z) = false)
    (ha : starred a = false) (hb : starred b = false) (hc' : starred c = false) (hf : ([a, b, c].all (foldedForSure 8)) = false) (hc : ([a, b, c].all (constantsAlone 8)) = false) :
    swappedStores [.Tuple [.Name x px, .Name y py, .Name z pz] kt pt] (.Tuple [a, b, c] k2 pt2) env = pure (some [x, y, z]) := by
  have kx : env.kindOf x = some .local := hx
  have ky : env.kindOf y = some .local := hy
  have kz : env.kindOf z = some .local := hz
  have hpl : (py.line == px.line) = true := by rw [eq_of_beq hl]; exact beq_self_eq_true _
  have hpl2 : (pz.line == px.line) = true := by rw [eq_of_beq hl2]; exact beq_self_eq_true _
  have kb : (env.blockKind != .function) = false := by rw [hk]; rfl
  have nxy : (!y == x) = true := by
    rw [Bool.not_eq_true', beq_eq_false_iff_ne]
    exact fun e => (beq_eq_false_iff_ne.mp hxy) e.symm
  have nxz : (!z == x) = true := by
    rw [Bool.not_eq_true', beq_eq_false_iff_ne]
    exact fun e => (beq_eq_false_iff_ne.mp hxz) e.symm
  have nyz : (!z == y) = true := by
    rw [Bool.not_eq_true', beq_eq_false_iff_ne]
    exact fun e => (beq_eq_false_iff_ne.mp hyz) e.symm
  have hed : ([x, y, z] : List Str).eraseDups = [x, y, z] := by
    rw [List.eraseDups_cons, List.filter_cons, if_pos nxy, List.filter_cons, if_pos nxz, List.filter_nil, List.eraseDups_cons, List.filter_cons, if_pos nyz, List.filter_nil]
    rfl
  unfold swappedStores
  dsimp only
  rw [kb]
  refine (if_neg (by simp)).trans ?_
  refine (if_neg (fun h => ?_)).trans ?_
  · rw [List.any_cons, List.any_cons, List.any_cons, List.any_nil, Bool.or_eq_true, Bool.or_eq_true, Bool.or_eq_true] at h
    rcases h with h | h | h | h
    · cases a <;> first
        | (cases ha; done)
        | (cases h; done)
    · cases b <;> first
        | (cases hb; done)
        | (cases h; done)
    · cases c <;> first
        | (cases hc'; done)
        | (cases h; done)
    · cases h
  generalize hn : List.filterMap _ [Expr.Name x px, Expr.Name y py, Expr.Name z pz] = l
  have hl3 : l = [x, y, z] := by
    rw [← hn]
    have h1 : (env.kindOf x == some NameKind.local && px.line == px.line) = true := by rw [kx]; simp
    have h2 : (env.kindOf y == some NameKind.local && py.line == px.line) = true := by rw [ky, hpl]; rfl
    have h3 : (env.kindOf z == some NameKind.local && pz.line == px.line) = true := by rw [kz, hpl2]; rfl
    refine (List.filterMap_cons_some (b := x) ?_).trans (congrArg (x :: ·) ((List.filterMap_cons_some (b := y) ?_).trans (congrArg (y :: ·) ((List.filterMap_cons_some (b := z) ?_).trans rfl))))
    · show (if (env.kindOf x == some NameKind.local && px.line == px.line) = true then some x else none) = some x
      rw [if_pos h1]
    · show (if (env.kindOf y == some NameKind.local && py.line == px.line) = true then some y else none) = some y
      rw [if_pos h2]
    · show (if (env.kindOf z == some NameKind.local && pz.line == px.line) = true then some z else none) = some z
      rw [if_pos h3]
  rw [hl3, hed]
  refine (if_neg (by simp)).trans ?_
  rw [hf, hc]
  rfl

/-! ### what is newly made -/
theorem sn_lstF {es : List Expr} {ms : Env → M (List D)} (h : PA X es (tA (arOf X τ B E) ms)) :
    PE X (.List es pos) (tDF (arOf X τ B E) fun env => do let ds ← ms env; let ds ← M.of (datL ds); if fits ds then M.ret (lst ds) else M.non) := by
  refine (pe_lst h).imp fun σ H Q ⟨env, s, R, t, h⟩ => ?_
  refine ⟨env, s, R, t, h.bnd.imp fun ds s1 H1 e1 t1 h1 vs dvs => ?_⟩
  obtain ⟨ps, ep, h2⟩ := h1.bnd.of
  obtain ⟨hf, h3⟩ := (h2 H1 (Xt.refl H1) t1).ifN
  have hd := datL_of ep dvs
  refine ⟨by rw [hd.length]; exact fits_of hf, fun p np => h3.ret _ (Al.new np).xt ((Al.new np).town t1) p (none_of e1 np) (by rw [upd_same]; simp) (Or.inr ⟨p, vs, ps, rfl, rfl, upd_same, (Al.new np).drs (Drs.shift (fun a z => z.imp id fun z => by rw [z]; exact np) _ _ hd)⟩)⟩
theorem sn_listF {e : Expr} {p : Pos} {m : Env → M D} (hg : Gl X "list") (hm : X.mg "list" = none) (h : PE X e (tD (arOf X τ B E) false m)) (ns : starred e = false) :
    PE X (.Call (.Name "list" p) [e] [] pos) (tDF (arOf X τ B E) fun env => do let x ← m env; M.of (opList x)) := by
  refine (pe_callTy call_list_of hg hm (by decide +kernel) (sn_one h ns) (by decide) (by decide) (star1 ns) rfl).imp fun σ H Q ⟨env, s, R, t, h⟩ => ?_
  refine ⟨env, s, R, t, h.bnd.imp fun x s1 H1 e1 t1 h1 v dv => ?_⟩
  obtain ⟨d, ed, h2⟩ := h1.of
  unfold opList at ed
  split at ed <;> try (cases ed; done)
  · cases ed
    obtain ⟨a, xs, rfl, hp, hd⟩ := dv.i.lst
    refine ⟨a, xs, rfl, .inl (SqL.of hp), fun l nl => h2 _ (Al.new nl).xt ((Al.new nl).town t1) l (none_of e1 nl) (by rw [upd_same]; simp) (Or.inr ⟨l, xs, _, rfl, rfl, upd_same, (Al.new nl).drs (Drs.shift (fun a z => z.imp id fun z => by rw [z]; exact nl) _ _ hd)⟩)⟩
  · cases ed
    obtain ⟨a, xs, rfl, hp, hd⟩ := dv.i.tup
    refine ⟨a, xs, rfl, .inr hp, fun l nl => h2 _ (Al.new nl).xt ((Al.new nl).town t1) l (none_of e1 nl) (by rw [upd_same]; simp) (Or.inr ⟨l, xs, _, rfl, rfl, upd_same, (Al.new nl).drs (Drs.shift (fun a z => z.imp id fun z => by rw [z]; exact nl) _ _ hd)⟩)⟩
end
section
variable {nm : Nm} {Gs : Nat → List Int → Fun} {CX : CXT}
def isFresh : CE → Bool
  | .lst _ => true
  | .lc .. => true
  | .p1 .list _ => true
  | .dke _ => true
  | .dnew => true
  | .done _ _ => true
  | _ => false
theorem snF {X : Cx} {τ : Tn} {B : Addr → Prop} {E : XK} (F : Fx nm Gs CX X τ E) {c : CE} {e : Expr} (hf : isFresh c = true) (h : ck nm X.env.scope c e = true) : PE X e (tDF (arOf X τ B E) (ev (GG Gs τ) true c)) := by
  unfold isFresh at hf
  split at hf
  · simp only [ck] at h; split at h <;> try (cases h; done)
    exact sn_lstF (snEs _ X τ B E F _ h).a
  · rename_i own tg it elt
    simp only [ck] at h; split at h <;> try (cases h; done)
    simp only [Bool.and_eq_true] at h
    obtain ⟨⟨⟨⟨h1, h2⟩, h3⟩, h4⟩, h5⟩ := h
    obtain ⟨p1, p2⟩ := lc_parts (B := B) (E := E) F h3 fun X' B' E' F' hs => snE elt X' τ B' E' F' _ (by rw [hs]; exact h5)
    exact sn_lcF (mt := fun _ => M.ret true) F.gd.calm F.gd.nd F.N (snI it X τ B E F _ _ h4 false) h1 h2 p1 lc_yes p2 (ckI_fold h4)
  · simp only [ck] at h; split at h <;> try (cases h; done)
    simp only [Bool.and_eq_true] at h
    obtain ⟨h1, h2⟩ := h
    obtain ⟨q, rfl, hg⟩ := isNm_of h1
    exact sn_listF hg (F.bi _ (by decide)) ((snE _ X τ B E F _ h2).v false) (ck_ns h2)
  · simp only [ck] at h; split at h <;> try (cases h; done)
    simp only [Bool.and_eq_true] at h
    obtain ⟨h1, h2⟩ := h
    obtain ⟨q, rfl, hg⟩ := isNm_of h1
    exact sn_dkeF F.gd hg (F.bi _ (by decide)) ((snE _ X τ B E F _ h2).v false) (ck_ns h2)
  · simp only [ck] at h; split at h <;> try (cases h; done)
    exact sn_dnewF
  · simp only [ck] at h; split at h <;> try (cases h; done)
    simp only [Bool.and_eq_true] at h
    exact sn_doneF F.gd ((snE _ X τ B E F _ h.1).v true) ((snE _ X τ B E F _ h.2).v true)
  · cases hf

/-! ### the text of statements -/
def notComp : Expr → Bool
  | .ListComp .. => false
  | .SetComp .. => false
  | .DictComp .. => false
  | _ => true
theorem notComp_sw {v : Expr} {t : Option Expr} {l : Nat} {env : PySem.Env} (h : notComp v = true) : swapsWith v t l env = pure false := by
  cases v <;> first
    | rfl
    | (cases h; done)
def notTup : Expr → Bool
  | .Tuple .. => false
  | _ => true
def isAt (x : Str) : Expr → Bool
  | .Attribute (.Name ..) n _ => n == x
  | _ => false
def ckPar (nm : Nm) (sc : Scope) : List (Bool × Nat) → CEs → List Expr → Bool
  | [], .nil, [] => true
  | t :: ts, .cons c r, e :: l => (!t.1 || isFresh c) && ck nm sc c e && ckPar nm sc ts r l
  | _, _, _ => false
/-- a tuple whose stores are not swapped -/
def noSw (n : Nat) : Expr → Bool
  | .Tuple vs _ _ => vs.all (foldedForSure 8) || decide (3 < n)
  | _ => true
def parN (nm : Nm) (sc : Scope) (ts : List (Bool × Nat)) (es : CEs) : Stmt → Bool
  | .Assign [.Tuple xs _ _] (.Tuple l _ _) _ => (xs.any fun e => match e with | .Name x _ => !(sc.names.lookup x == some .local) | _ => true) && ckTgs nm (fun _ => true) sc (ts.map fun t => Tg.v t.2) xs && decide (ts.length ≤ 1000) && ckPar nm sc ts es l
  | _ => false
section
variable (nm : Nm) (sc : Scope)
mutual
def ckS : CS → Stmt → Bool
  | .asg tg e, st => (match tg, st with
    | .v i, .Assign [.Name x p] v _ => nm.N[i]? == some x && locB sc x && ck nm sc e v && (match v with | .SetComp .. => false | .DictComp .. => false | _ => true)
    | .t ts, .Assign [.Tuple es k p] v _ => ckTg nm (fun _ => true) sc (.t ts) (.Tuple es k p) && ck nm sc e v && noSw es.length v && notComp v
    | _, _ => false)
  | .own i e, st => (match st with
    | .Assign [.Name x p] v _ => nm.N[i]? == some x && locB sc x && isFresh e && ck nm sc e v && (match v with | .SetComp .. => false | .DictComp .. => false | _ => true) && !swB sc v x p
    | _ => false)
  | .par ts es, st => parN nm sc ts es st || (match ts, st with
    | [t, u], .Assign [.Tuple [.Name x px, .Name y py] _ _] (.Tuple [a, b] _ _) _ => nm.N[t.2]? == some x && nm.N[u.2]? == some y && !(t.2 == u.2) && sc.names.lookup x == some .local && sc.names.lookup y == some .local && px.line == py.line && !(x == y) &&
      ckPar nm sc ts es [a, b] && !([a, b].all (foldedForSure 8)) && !([a, b].all (constantsAlone 8))
    | [t, u, w], .Assign [.Tuple [.Name x px, .Name y py, .Name z pz] _ _] (.Tuple [a, b, c] _ _) _ => nm.N[t.2]? == some x && nm.N[u.2]? == some y && nm.N[w.2]? == some z && !(t.2 == u.2) && !(t.2 == w.2) && !(u.2 == w.2) && sc.names.lookup x == some .local && sc.names.lookup y == some .local && sc.names.lookup z == some .local &&
      px.line == py.line && px.line == pz.line && !(x == y) && !(x == z) && !(y == z) && ckPar nm sc ts es [a, b, c] && !([a, b, c].all (foldedForSure 8)) && !([a, b, c].all (constantsAlone 8))
    | _, _ => false)
  | .sto i k e, st => (match st with
    | .Assign [.Subscript (.Name o _) kx _] v _ => nm.N[i]? == some o && visB sc o && notDbg o && ck nm sc k kx && !slicy kx && ck nm sc e v && notComp v && notTup v
    | _ => false)
  | .app i e, st => (match st with
    | .Expr (.Call (.Attribute (.Name o _) n ap) [v] [] cp) _ => n == ("append" : Str) && nm.N[i]? == some o && visB sc o && notDbg o && ap.endLine == cp.line && ck nm sc e v
    | _ => false)
  | .ext i e, st => (match st with
    | .Expr (.Call (.Attribute (.Name o _) n ap) [v] [] cp) _ => n == ("extend" : Str) && nm.N[i]? == some o && visB sc o && notDbg o && ap.endLine == cp.line && ck nm sc e v
    | _ => false)
  | .frz _, _ => false
  | .iff c a b, st => (match st with
    | .If t x y _ => noIte c && ck nm sc c t && ckSs a x && ckSs b y
    | _ => false)
  | .for tg it body, st => (match st with
    | .For t i b [] _ => ckTg nm (fun _ => true) sc tg t && ckI nm sc it i t && ckSs body b
    | _ => false)
  | .forF _ _ _, _ => false
  | .whl c body, st => (match st with
    | .While t b [] _ => noIte c && ck nm sc c t && ckSs body b
    | _ => false)
  | .ret e, st => (match st with
    | .Return (some v) _ => ck nm sc e v
    | _ => false)
  | .rai c, st => (match st with
    | .Raise (some (.Call (.Name x _) [.Constant (.str _) _ _] [] _)) none _ => nm.EX.contains c && exN[c]? == some x && glB sc x && notDbg x
    | _ => false)
  | .exp e, st => (match st with
    | .Expr v _ => ck nm sc e v && notComp v
    | _ => false)
  | .pass, st => (match st with
    | .Pass _ => true
    | _ => false)
  | .stk, _ => true
def ckSs : CSs → List Stmt → Bool
  | .nil, l => (match l with
    | [] => true
    | _ => false)
  | .cons s r, l => (match s with
    | .frz _ => ckSs r l
    | s => (match l with
      | st :: l => ckS s st && ckSs r l
      | [] => false))
end
end
end
end BK
set_option Elab.async false
set_option linter.all false
set_option maxRecDepth 100000
set_option maxHeartbeats 4000000
/-! The small language says the truth: statements, all; defs. -/
namespace BK
open PySem L2
/-- what holds around a body -/
structure Bx (X : Cx) : Prop where
  hk : X.env.blockKind = .function
  hp : PassesOwn (model X.prog X.w) X.A X.env X.xe
  hf : ∀ x, X.fn x = true
section
variable {nm : Nm} {Gs : Nat → List Int → Fun} {CX : CXT} {fu : Nat}
theorem frz_ex {env : Env} {is : List Nat} {m : Env → M Fl} : (do match ← ex (GG Gs τ) fu (.frz is) env with
    | .nx env' => m env'
    | .rt d => M.ret (.rt d)) = m (frzE env is) := rfl
theorem ss_frz {X : Cx} {τ : Tn} {B : Addr → Prop} {E : XK} {l : List Stmt} {is : List Nat} {m : Env → M Fl} (h : PSs X l (tS (arOf X τ B E) m)) : PSs X l (tS (arOf X τ B E) fun env => m (frzE env is)) := by
  refine h.imp fun D σ H ⟨env, s, R, t, q⟩ => ?_
  have p := Pst.frz R is
  exact ⟨frzE env is, s, p.rp, t, SOk.step p q⟩
theorem ss_rai {X : Cx} {τ : Tn} {B : Addr → Prop} {E : XK} {c : Nat} {x m : Str} {j : Nat} {p p2 pos pos2 : Pos} (F : Fx nm Gs CX X τ E) (hc : nm.EX.contains c = true) (hx : exN[c]? = some x) (hg : Gl X x) (hdb : (x == ("__debug__" : Str)) = false) :
    PS X (.Raise (some (.Call (.Name x p) [.Constant (.str m) j p2] [] pos)) none pos2) (tS (arOf X τ B E) fun _ => M.rai c) := by
  obtain ⟨C, e, h1, h2, h3, h4, h5⟩ := (F.ex c x hc hx).to
  refine (ps_raise F.gd.calm F.tk (pmk_own PySem.F.excBase_ValueError h3 h1 h2 (raises_own h4 h5) hg hdb)).imp fun D σ H ⟨env, s, R, t, h⟩ => ?_
  have q : E (τ.cl c) none H := h H (Al.refl H).ke t
  rw [e] at q
  exact q
theorem sole_of {v t : Expr} {l : Nat} {env : PySem.Env} (h : notComp v = true) : swapsWithSole [t] v l env = pure false := by
  unfold swapsWithSole
  exact notComp_sw h
theorem snPar : ∀ (ts : List (Bool × Nat)) (es : CEs) (X : Cx) (τ : Tn) (B : Addr → Prop) (E : XK), Fx nm Gs CX X τ E → ∀ l, ckPar nm X.env.scope ts es l = true → PA X l (tPar X τ B E ts (evs (GG Gs τ) es)) ∧ ∀ e ∈ l, starred e = false
  | [], .nil, X, τ, B, E, F, l, h => by
    cases l with
    | nil => exact ⟨par_nil, fun e z => (by cases z)⟩
    | cons => simp [ckPar] at h
  | [], .cons _ _, X, τ, B, E, F, l, h => by cases l <;> simp [ckPar] at h
  | _ :: _, .nil, X, τ, B, E, F, l, h => by cases l <;> simp [ckPar] at h
  | t :: ts, .cons c r, X, τ, B, E, F, l, h => by
    cases l with
    | nil => simp [ckPar] at h
    | cons e l =>
      simp only [ckPar, Bool.and_eq_true, Bool.or_eq_true, Bool.not_eq_true'] at h
      obtain ⟨⟨h1, h2⟩, h3⟩ := h
      obtain ⟨k, ns⟩ := snPar ts r X τ B E F l h3
      refine ⟨par_cons ?_ k (star1 (ck_ns h2)), fun z hz => ?_⟩
      · obtain ⟨fl, i⟩ := t
        cases fl with
        | true => exact pv_own fun B => snF F (h1.resolve_left (by simp)) h2
        | false => exact pv_keep fun B => (snE c X τ B E F e h2).v true
      · rcases List.mem_cons.mp hz with rfl | hz
        · exact ck_ns h2
        · exact ns z hz
mutual
theorem snS : ∀ (c : CS) (X : Cx) (τ : Tn) (B : Addr → Prop) (E : XK), Fx nm Gs CX X τ E → Bx X → ∀ st, ckS nm X.env.scope c st = true → PS X st (tS (arOf X τ B E) (ex (GG Gs τ) fu c))
  | .asg tg e, X, τ, B, E, F, b, st, h => by
    simp only [ckS] at h; split at h <;> try (cases h; done)
    · simp only [Bool.and_eq_true, beq_iff_eq] at h
      obtain ⟨⟨⟨h1, h2⟩, h3⟩, h4⟩ := h
      rename_i i x p v pos
      have hi : X.N[i]? = some x := by rw [F.N]; exact h1
      have sw := swB_eq (x := x) (p := p) (l := pos.line) b.hk h4
      cases hb : swB X.env.scope v x p with
      | false => exact ss_asg F.gd hi (locB_of h2) (.inl (b.hf x)) ((snE e X τ B E F v h3).v true) (by rw [sw, hb])
      | true =>
        rw [hb] at sw
        have hyl : X.env.scope.names.lookup x = some .local := by
          cases v <;> first
            | (cases hb; done)
            | skip
          unfold swB at hb
          simp only [Bool.and_eq_true, beq_iff_eq] at hb
          exact hb.1.1
        cases e <;> first
          | (simp only [ck] at h3; (split at h3 <;> first | (cases h3; done) | (cases hb; done)); done)
          | (simp [ck] at h3; done)
          | skip
        · simp only [ck] at h3; split at h3 <;> try (cases h3; done)
          simp only [Bool.and_eq_true] at h3
          obtain ⟨⟨⟨⟨h1, h2⟩, h3⟩, h4⟩, h5⟩ := h3
          obtain ⟨p1, p2⟩ := lc_parts (B := B) (E := E) F h3 fun X' B' E' F' hs => snE _ X' τ B' E' F' _ (by rw [hs]; exact h5)
          exact ss_asgLc (mt := fun _ => M.ret true) F.gd F.N hi hyl sw (snI _ X τ B E F _ _ h4 false) h1 h2 p1 lc_yes p2 (ckI_fold h4)
        · simp only [ck] at h3; split at h3 <;> try (cases h3; done)
          simp only [Bool.and_eq_true] at h3
          obtain ⟨⟨⟨⟨⟨⟨h1, h2⟩, h3⟩, h4⟩, h5⟩, h6⟩, h7⟩ := h3
          obtain ⟨p1, p2⟩ := lc_parts (B := B) (E := E) F h3 fun X' B' E' F' hs => snE _ X' τ B' E' F' _ (by rw [hs]; exact h7)
          have p3 := lc_cond (B := B) (E := E) F h5 fun X' B' E' F' hs => snE _ X' τ B' E' F' _ (by rw [hs]; exact h6)
          have k := ss_asgLc F.gd F.N hi hyl sw (snI _ X τ B E F _ _ h4 false) h1 h2 p1 p3 p2 (ckI_fold h4)
          refine k.imp fun D σ H z => ?_
          obtain ⟨env, s, R, t, z⟩ := z
          refine ⟨env, s, R, t, ?_⟩
          simp only [ex, lcIf_ev] at z
          exact z
    · simp only [Bool.and_eq_true] at h
      obtain ⟨⟨⟨h1, h2⟩, h3⟩, h4⟩ := h
      rename_i ts es k p v pos
      have hg := sn_tg (τ := τ) (B := B) (E := E) (nm := nm) (fnb := fun _ => true) F.gd F.N (fun x _ => b.hf x) (.t ts) (.Tuple es k p) h1
      refine ss_asgT hg ((snE e X τ B E F v h2).v true) (sole_of h4) ?_ rfl
      cases v <;> first
        | rfl
        | exact swN h3
  | .own i e, X, τ, B, E, F, b, st, h => by
    simp only [ckS] at h; split at h <;> try (cases h; done)
    simp only [Bool.and_eq_true, beq_iff_eq, Bool.not_eq_true'] at h
    obtain ⟨⟨⟨⟨⟨h1, h2⟩, h3⟩, h4⟩, h5⟩, h6⟩ := h
    exact ss_own F.gd (by rw [F.N]; exact h1) (locB_of h2) (.inl (b.hf _)) (snF F h3 h4) (by rw [swB_eq b.hk h5, h6])
  | .par ts es, X, τ, B, E, F, b, st, h => by
    simp only [ckS, Bool.or_eq_true] at h
    rcases h with h | h
    · unfold parN at h
      split at h <;> try (cases h; done)
      simp only [Bool.and_eq_true, decide_eq_true_eq] at h
      obtain ⟨⟨⟨h1, h2⟩, h3⟩, h4⟩ := h
      obtain ⟨k8, ns⟩ := snPar _ es X τ B E F _ h4
      exact ss_parN F.gd F.N b.hf h2 h3 k8 (swC h1)
    split at h <;> try (cases h; done)
    · simp only [Bool.and_eq_true, beq_iff_eq, Bool.not_eq_true', beq_eq_false_iff_ne] at h
      obtain ⟨⟨⟨⟨⟨⟨⟨⟨⟨h1, h2⟩, h3⟩, h4⟩, h5⟩, h6⟩, h7⟩, h8⟩, h9⟩, h10⟩ := h
      obtain ⟨k8, ns⟩ := snPar _ es X τ B E F _ h8
      exact ss_par2 F.gd (by rw [F.N]; exact h1) (by rw [F.N]; exact h2) h3 h4 h5 k8
        (swp2 b.hk h4 h5 (by rw [h6]; exact beq_self_eq_true _) (beq_eq_false_iff_ne.mpr h7) (ns _ (by simp)) (ns _ (by simp)) h9 h10)
    · simp only [Bool.and_eq_true, beq_iff_eq, Bool.not_eq_true', beq_eq_false_iff_ne] at h
      obtain ⟨⟨⟨⟨⟨⟨⟨⟨⟨⟨⟨⟨⟨⟨⟨⟨h1, h2⟩, h3⟩, n1⟩, n2⟩, n3⟩, h4⟩, h5⟩, h6⟩, l1⟩, l2⟩, m1⟩, m2⟩, m3⟩, h8⟩, h9⟩, h10⟩ := h
      obtain ⟨k8, ns⟩ := snPar _ es X τ B E F _ h8
      exact ss_par3 F.gd (by rw [F.N]; exact h1) (by rw [F.N]; exact h2) (by rw [F.N]; exact h3) n1 n2 n3 h4 h5 h6 k8
        (swp3 b.hk h4 h5 h6 (by rw [l1]; exact beq_self_eq_true _) (by rw [l2]; exact beq_self_eq_true _) (beq_eq_false_iff_ne.mpr m1) (beq_eq_false_iff_ne.mpr m2) (beq_eq_false_iff_ne.mpr m3) (ns _ (by simp)) (ns _ (by simp)) (ns _ (by simp)) h9 h10)
  | .sto i k e, X, τ, B, E, F, b, st, h => by
    simp only [ckS] at h; split at h <;> try (cases h; done)
    simp only [Bool.and_eq_true, beq_iff_eq, Bool.not_eq_true'] at h
    obtain ⟨⟨⟨⟨⟨⟨⟨h1, h2⟩, h3⟩, h4⟩, h5⟩, h6⟩, h7⟩, h8⟩ := h
    rename_i o po kx p v pos
    refine ss_sto F.gd (by rw [F.N]; exact h1) (visB_of h2) (dbg_of h3).1 (dbg_of h3).2 ((snE e X τ B E F _ h6).v true) ((snE k X τ B E F _ h4).v true) (fun u => ?_) (sole_of h7) ?_
    · cases kx <;> first
        | rfl
        | (cases h5; done)
    · cases v <;> first
        | rfl
        | (cases h8; done)
  | .app i e, X, τ, B, E, F, b, st, h => by
    simp only [ckS] at h; split at h <;> try (cases h; done)
    simp only [Bool.and_eq_true, beq_iff_eq] at h
    obtain ⟨⟨⟨⟨⟨rfl, h1⟩, h2⟩, h3⟩, h4⟩, h5⟩ := h
    exact ss_app (by rw [F.N]; exact h1) (visB_of h2) (dbg_of h3).1 (dbg_of h3).2 ((snE e X τ B E F _ h5).v true) (ck_ns h5) (beq_iff_eq.mpr h4) rfl rfl
  | .ext i e, X, τ, B, E, F, b, st, h => by
    simp only [ckS] at h; split at h <;> try (cases h; done)
    simp only [Bool.and_eq_true, beq_iff_eq] at h
    obtain ⟨⟨⟨⟨⟨rfl, h1⟩, h2⟩, h3⟩, h4⟩, h5⟩ := h
    exact ss_ext (by rw [F.N]; exact h1) (visB_of h2) (dbg_of h3).1 (dbg_of h3).2 ((snE e X τ B E F _ h5).v true) (ck_ns h5) (beq_iff_eq.mpr h4) rfl rfl
  | .frz is, X, τ, B, E, F, b, st, h => by simp [ckS] at h
  | .iff c p q, X, τ, B, E, F, b, st, h => by
    simp only [ckS] at h; split at h <;> try (cases h; done)
    simp only [Bool.and_eq_true] at h
    obtain ⟨⟨⟨h1, h2⟩, h3⟩, h4⟩ := h
    have k := ss_if (pos := by assumption) ((snE c X τ B E F _ h2).t h1) (snSs p X τ B E F b _ h3) (snSs q X τ B E F b _ h4)
    refine k.imp fun D σ H z => ?_
    simpa only [ex, M.assoc, bind] using z
  | .for tg it body, X, τ, B, E, F, b, st, h => by
    simp only [ckS] at h; split at h <;> try (cases h; done)
    simp only [Bool.and_eq_true] at h
    obtain ⟨⟨h1, h2⟩, h3⟩ := h
    have hg := sn_tg (τ := τ) (B := B) (E := E) (nm := nm) (fnb := fun _ => true) F.gd F.N (fun x _ => b.hf x) tg _ h1
    exact ss_for F.gd b.hp (snI it X τ B E F _ _ h2 true) hg (snSs body X τ B E F b _ h3) (ckI_fold h2)
  | .forF i fs body, X, τ, B, E, F, b, st, h => by simp [ckS] at h
  | .whl c body, X, τ, B, E, F, b, st, h => by
    simp only [ckS] at h; split at h <;> try (cases h; done)
    simp only [Bool.and_eq_true] at h
    obtain ⟨⟨h1, h2⟩, h3⟩ := h
    exact ss_while b.hp ((snE c X τ B E F _ h2).t h1) (snSs body X τ B E F b _ h3)
  | .ret e, X, τ, B, E, F, b, st, h => by
    simp only [ckS] at h; split at h <;> try (cases h; done)
    exact ss_ret ((snE e X τ B E F _ h).v true)
  | .rai c, X, τ, B, E, F, b, st, h => by
    simp only [ckS] at h; split at h <;> try (cases h; done)
    simp only [Bool.and_eq_true, beq_iff_eq] at h
    obtain ⟨⟨⟨h1, h2⟩, h3⟩, h4⟩ := h
    exact ss_rai F h1 h2 (show Gl X _ from glB_of h3) (dbg_of h4).1
  | .exp e, X, τ, B, E, F, b, st, h => by
    simp only [ckS] at h; split at h <;> try (cases h; done)
    simp only [Bool.and_eq_true] at h
    exact ss_exp ((snE e X τ B E F _ h.1).v true) (notComp_sw h.2)
  | .pass, X, τ, B, E, F, b, st, h => by
    simp only [ckS] at h; split at h <;> try (cases h; done)
    exact ss_pass
  | .stk, X, τ, B, E, F, b, st, h => ss_never
theorem snSs : ∀ (c : CSs) (X : Cx) (τ : Tn) (B : Addr → Prop) (E : XK), Fx nm Gs CX X τ E → Bx X → ∀ l, ckSs nm X.env.scope c l = true → PSs X l (tS (arOf X τ B E) (exs (GG Gs τ) fu c))
  | .nil, X, τ, B, E, F, b, l, h => by
    cases l with
    | nil => exact ss_nil
    | cons => simp [ckSs] at h
  | .cons c r, X, τ, B, E, F, b, l, h => by
    have gen : ∀ st l, ckS nm X.env.scope c st = true → ckSs nm X.env.scope r l = true → PSs X (st :: l) (tS (arOf X τ B E) (exs (GG Gs τ) fu (.cons c r))) := fun st l h1 h2 => ss_cons (snS c X τ B E F b st h1) (snSs r X τ B E F b l h2)
    cases c with
    | frz is =>
      simp only [ckSs] at h
      exact ss_frz (snSs r X τ B E F b l h)
    | _ =>
      cases l with
      | nil => simp [ckSs] at h
      | cons st l =>
        simp only [ckSs, Bool.and_eq_true] at h
        exact gen st l h.1 h.2
end
end
end BK
set_option Elab.async false
set_option linter.all false
set_option maxRecDepth 100000
set_option maxHeartbeats 4000000
/-! Defs. -/
namespace BK
open PySem L2
def callD (fs : List (List Int → Fun)) (scr : List Int) (i : Nat) : Fun := match fs[i]? with
  | some f => f scr
  | none => fun _ => M.non
section
variable {P : Program} {w : World} {K : PySem.W.Frag} {mg : Str → Option Value} {base : Heap} {CX : CXT} {k : Nat}
/-- by place n, by name ks: all parameters in their order -/
def gKw {α : Type} (n m : Nat) (us ws : List α) : List α := if us.length = n ∧ ws.length = m then us ++ ws else []
theorem kbinds_of {fd : FuncData} {ps : List Str} {n : Nat} {ks : List Str} (hp : ps ≠ []) (h : ∀ us ws : List Value, us.length = n → ws.length = ks.length → bindArgs fd ⟨us, ks.zip ws⟩ = pure (ps.zip (us ++ ws))) : KBinds K fd ps ks (gKw n ks.length) (gKw n ks.length) := by
  refine ⟨fun s us ws _ hl => ?_, fun {vs us zs ws} r1 r2 => ?_⟩
  · unfold gKw at hl ⊢
    by_cases hc : us.length = n ∧ ws.length = ks.length
    · rw [if_pos hc] at hl ⊢
      exact .of_eq (h us ws hc.1 hc.2)
    · rw [if_neg hc] at hl
      exact absurd (List.eq_nil_of_length_eq_zero hl.symm) hp
  · unfold gKw
    rw [r1.length, r2.length]
    by_cases hc : us.length = n ∧ ws.length = ks.length
    · rw [if_pos hc, if_pos hc]
      exact r1.append r2
    · rw [if_neg hc, if_neg hc]
      exact .nil
/-- how a def takes arguments by name -/
def Kws (K : PySem.W.Frag) (fd : FuncData) (ps : List Str) (kws : List (Nat × List Str)) : Prop := ∀ e ∈ kws, KBinds K fd ps e.2 (gKw e.1 e.2.length) (gKw e.1 e.2.length)
theorem Kws.nil {fd : FuncData} {ps : List Str} : Kws K fd ps [] := fun _ h => by cases h
theorem Kws.cons {fd : FuncData} {ps : List Str} {n : Nat} {ks : List Str} {r : List (Nat × List Str)} (h1 : KBinds K fd ps ks (gKw n ks.length) (gKw n ks.length)) (h2 : Kws K fd ps r) : Kws K fd ps ((n, ks) :: r) := fun e h => by
  rcases List.mem_cons.mp h with rfl | h
  · exact h1
  · exact h2 e h
def kwOf (KW : List (Nat × Nat × List Str)) (i : Nat) : List (Nat × List Str) := (KW.filter fun e => e.1 == i).map (·.2)
/-- the defs that are known -/
structure FnB (P : Program) (w : World) (K : PySem.W.Frag) (mg : Str → Option Value) (base : Heap) (CX : CXT) (k : Nat) (τ0 : Tn) (kws : List (Nat × List Str)) (x : Str) (f : Addr) (F : List Int → Fun) : Prop where
  ok : ∃ fd ps, FnOk P w K mg base CX k f fd ps (spD P w K τ0 F) ∧ Binds K fd ps [] ∧ Kws K fd ps kws
  mg : mg x = some (.ref f)
  kp : PySem.W.keepIn K (.ref f) = true
theorem FnB.up {τ0 : Tn} {kws : List (Nat × List Str)} {x : Str} {f : Addr} {F : List Int → Fun} (h : FnB P w K mg base CX k τ0 kws x f F) {j : Nat} (hj : k ≤ j) : FnB P w K mg base CX j τ0 kws x f F := by
  obtain ⟨⟨fd, ps, h1, h2⟩, h3, h4⟩ := h
  exact ⟨⟨fd, ps, h1.mono hj, h2⟩, h3, h4⟩
structure ExB (K : PySem.W.Frag) (mg : Str → Option Value) (v : Value) (x : Str) : Prop where
  to : ∃ C : Addr, v = .ref C ∧ mg x = some (.ref C) ∧ PySem.W.keepIn K (.ref C) = true ∧ PySem.W.excIn K C bmV "ValueError.__new__" = true ∧ PySem.W.subIn K (.ref C) (.type "BaseException") = some true ∧ PySem.W.typeIn K (.ref C) = some (.type "type")
structure Gx (P : Program) (w : World) (K : PySem.W.Frag) (mg : Str → Option Value) (base : Heap) (τ0 : Tn) (CN : List (Str × PyData)) (EX : List Nat) : Prop where
  bi : ∀ x, x ∈ biNames → mg x = none
  cn : ∀ x d, CN.lookup x = some d → ∃ v, (∃ u, mg x = some u ∧ RelV v u) ∧ ∀ S H, Dr K S H v d
  ex : ∀ c x, EX.contains c = true → exN[c]? = some x → ExB K mg (τ0.cl c) x
def Tab (P : Program) (w : World) (K : PySem.W.Frag) (mg : Str → Option Value) (base : Heap) (CX : CXT) (k : Nat) (τ0 : Tn) (KW : List (Nat × Nat × List Str)) (names : List Str) (fs : List (List Int → Fun)) : Prop :=
  ∀ i x, names[i]? = some x → notDbg x = true → FnB P w K mg base CX k τ0 (kwOf KW i) x (τ0.fa i) fun scr => callD fs scr i
section
variable {KW : List (Nat × Nat × List Str)}
theorem Tab.up {τ0 : Tn} {names : List Str} {fs : List (List Int → Fun)} (h : Tab P w K mg base CX k τ0 KW names fs) {j : Nat} (hj : k ≤ j) : Tab P w K mg base CX j τ0 KW names fs := fun i x e hn => (h i x e hn).up hj
theorem Tab.nil {τ0 : Tn} : Tab P w K mg base CX k τ0 KW [] [] := fun i x h => by simp at h
theorem Tab.add {τ0 : Tn} {names : List Str} {fs : List (List Int → Fun)} {x : Str} {F : List Int → Fun} (h : Tab P w K mg base CX k τ0 KW names fs) (hl : names.length = fs.length) (hF : notDbg x = true → FnB P w K mg base CX k τ0 (kwOf KW names.length) x (τ0.fa names.length) F) : Tab P w K mg base CX k τ0 KW (names ++ [x]) (fs ++ [F]) := by
  intro i y e hn
  by_cases hi : i < names.length
  · rw [List.getElem?_append_left hi] at e
    have : (fun scr => callD (fs ++ [F]) scr i) = fun scr => callD fs scr i := by
      funext scr
      unfold callD
      rw [List.getElem?_append_left (by omega)]
    rw [this]
    exact h i y e hn
  · rw [List.getElem?_append_right (by omega)] at e
    have hz : i = names.length := by
      cases hq : i - names.length with
      | zero => omega
      | succ n => rw [hq] at e; simp at e
    subst hz
    rw [Nat.sub_self] at e
    cases e
    have : (fun scr => callD (fs ++ [F]) scr names.length) = F := by
      funext scr
      unfold callD
      rw [hl, List.getElem?_append_right (Nat.le_refl _), Nat.sub_self]
      rfl
    rw [this]
    exact hF hn
theorem Tab.snoc {τ0 : Tn} {names : List Str} {fs : List (List Int → Fun)} {x : Str} {F : List Int → Fun} (h : Tab P w K mg base CX k τ0 KW names fs) (hl : names.length = fs.length) (hF : FnB P w K mg base CX k τ0 (kwOf KW names.length) x (τ0.fa names.length) F) : Tab P w K mg base CX k τ0 KW (names ++ [x]) (fs ++ [F]) := h.add hl fun _ => hF
/-- a def that is not there -/
theorem Tab.skip {τ0 : Tn} {names : List Str} {fs : List (List Int → Fun)} (F : List Int → Fun) (h : Tab P w K mg base CX k τ0 KW names fs) (hl : names.length = fs.length) : Tab P w K mg base CX k τ0 KW (names ++ [("" : Str)]) (fs ++ [F]) := h.add hl fun z => absurd z (by decide)
end
theorem spD_eq {τ τ0 : Tn} (h1 : τ.fa = τ0.fa) (h2 : τ.cl = τ0.cl) (h3 : τ.tabs = τ0.tabs) (F : List Int → Fun) : spD P w K τ F = spD P w K τ0 F := by
  unfold spD
  rw [h1, h2, h3]
theorem Dvs.len {a : Ar} {S : Addr → Prop} {H : Hp} {vs : List V} {ds : List D} (h : Dvs a S H vs ds) : vs.length = ds.length := by
  induction h with
  | nil => rfl
  | cons _ _ ih => simp [ih]
theorem Dvs.get {a : Ar} {S : Addr → Prop} {H : Hp} : ∀ {vs : List V} {ds : List D} {i : Nat} {d : D}, Dvs a S H vs ds → ds[i]? = some d → ∃ v, vs[i]? = some v ∧ Dv a.P a.w a.K a.τ S true H v d
  | _, _, _, _, .nil, e => by simp at e
  | _, _, 0, _, .cons h _, e => by simp at e; subst e; exact ⟨_, rfl, h⟩
  | _, _, i + 1, d, .cons _ t, e => by
    obtain ⟨v, h1, h2⟩ := Dvs.get (i := i) (d := d) t (by simpa using e)
    exact ⟨v, by simpa using h1, h2⟩
def env0 (ns : Nat) (ds : List D) : Env := ds.map (fun d => some (false, d)) ++ List.replicate (ns - ds.length) none
theorem env0_get {ns : Nat} {ds : List D} {i : Nat} {o : Bool} {d : D} (h : (env0 ns ds)[i]? = some (some (o, d))) : o = false ∧ ds[i]? = some d := by
  unfold env0 at h
  by_cases hi : i < ds.length
  · rw [List.getElem?_append_left (by simpa using hi), List.getElem?_map] at h
    cases e : ds[i]? with
    | none => rw [e] at h; cases h
    | some x => rw [e] at h; cases h; exact ⟨rfl, rfl⟩
  · rw [List.getElem?_append_right (by simpa using hi), List.getElem?_replicate] at h
    split at h <;> cases h
/-- at the entry of a def -/
theorem rep_start {τ : Tn} {S : Addr → Prop} {E : XK} {H : Hp} {N : List Str} {vs : List V} {ds : List D} {s : Twn} (t : TownR τ H s) (hT : ∀ a, τ.U a → S a) (hS : ∀ a, S a → H a ≠ none) (dv : Dvs ⟨P, w, K, τ, S, E⟩ S H vs ds) (hl : ds.length ≤ N.length) :
    Rep P w K τ S (env0 N.length ds) (L2.start N vs) H ∧ ∀ a, ¬ Own (env0 N.length ds) (L2.start N vs) a := by
  have hO : ∀ a, ¬ Own (env0 N.length ds) (L2.start N vs) a := fun a ⟨i, d, h1, _⟩ => by
    have := (env0_get h1).1
    cases this
  have hA : ∀ a, Av S (env0 N.length ds) (L2.start N vs) a → S a := fun a z => z.elim id fun z => absurd z (hO a)
  refine ⟨⟨?_, fun i d h => ?_, fun i d h => ?_, fun i j a d e h1 => ?_, hS, hT⟩, hO⟩
  · unfold L2.start env0
    simp [dv.len]
  · obtain ⟨_, h⟩ := env0_get h
    obtain ⟨v, h1, h2⟩ := dv.get h
    refine ⟨v, ?_, Dv.mono hA h2⟩
    unfold L2.start
    rw [List.getElem?_append_left (by rw [List.length_map]; exact (List.getElem?_eq_some_iff.mp h1).1), List.getElem?_map, h1]
    rfl
  · have := (env0_get h).1
    cases this
  · have := (env0_get h1).1
    cases this
theorem runF_eq {G : Nat → Fun} {fu : Nat} {f : CF} {ds : List D} (hl : ds.length = f.np) : runF G fu f ds = (do
    match ← exs G fu f.body (env0 f.ns ds) with
    | .nx _ => M.ret non
    | .rt d => M.ret d) := by
  unfold runF env0
  rw [if_pos hl, hl] <;> rfl
theorem runF_len {G : Nat → Fun} {fu : Nat} {f : CF} {ds : List D} {s : Twn} {τ : Tn} {E : XK} {H : Hp} {Q : D → Twn → Hp → Prop} (h : Ok τ E H (runF G fu f ds s) Q) : ds.length = f.np := by
  by_cases hl : ds.length = f.np
  · exact hl
  · unfold runF at h
    rw [if_neg hl] at h
    exact h.elim
/-- what calls let out comes to what is wanted -/
theorem passesE {X : Cx} {E : XK} (tk : L2.Takes X (fun cls d _ H => E cls d H)) : Passes (L2.CX X.prog X.w) X E := fun pins σ H s e s' I c => tk e s' (XE.of_call I (fun _ _ _ h => h) c)
/-- a def that lets nothing out -/
theorem FnOk.lift {f : Addr} {fd : FuncData} {ps : List Str} {sp : Sp} (F : FnOk P w K mg base CX0 k f fd ps sp) : FnOk P w K mg base CX k f fd ps sp :=
  ⟨F.len, fun A outer s H args us vs Q E hr he hb hv hs => codeAny_mono (F.run A outer s H args us vs Q E hr he hb hv hs) fun r s' h => by
    cases r with
    | error e => exact False.elim h
    | ok fl => cases fl <;> exact h⟩
/-- the code object is told -/
theorem _root_.L2.Fun.okC {x qual : Str} {st : Stmt} {f : Addr} {fd : FuncData} {N ps : List Str} {sp : Sp} (F : L2.Fun K x qual st f fd) (S : FnScope N ps (defScope st)) (len : ∀ vs H Q E, sp vs H Q E → vs.length = ps.length)
    (hbody : ∀ (cdv : Value) (A : Around) (outer : List PySem.Env) (s : Shared) (H : Hp) (vs : List V) (Q : VK) (E : XK), fd.code = cdv → Room k (A.deeper (PyProof.Rows.envOfC qual (defScope st) s.heap.objs.size f cdv)) → sp vs H Q E →
      ∃ t, PSs (cxOf (L2.CX P w) P w K mg base N qual (defScope st) f cdv A outer s H E) (defBody st) t ∧ t { nx := fun _ H' => Q .non H', rt := Q } (L2.start N vs) H) : FnOk P w K mg base (L2.CX P w) (k + 1) f fd ps sp := by
  obtain ⟨oc, od, kV, doc, pm, an, cdv, ct, osl, rfl, lk, hcd⟩ := F.ex
  exact fn_of lk hcd S len fun A outer s H vs Q E hr hsp => hbody cdv A outer s H vs Q E rfl hr hsp
theorem kwOf_mem {KW : List (Nat × Nat × List Str)} {f n : Nat} {ns : List Str} (h : KW.contains (f, n, ns) = true) : (n, ns) ∈ kwOf KW f := by
  have h := List.contains_iff_mem.mp h
  exact List.mem_map.mpr ⟨(f, n, ns), List.mem_filter.mpr ⟨h, beq_self_eq_true _⟩, rfl⟩
/-- around any body -/
theorem fxb_of {nm : Nm} {τ0 τ : Tn} {fs : List (List Int → Fun)} {X : Cx} {E : XK} (h1 : X.prog = P) (h2 : X.w = w) (h3 : X.K = K) (h4 : X.mg = mg) (h5 : X.base = base) (h6 : X.N = nm.N) (h7 : X.calm = true) (hN : nm.N.Nodup) (hr : Room k X.A) (tk : L2.Takes X (fun cls d _ H => E cls d H))
    (G : Gx P w K mg base τ0 nm.CN nm.EX) (T : Tab P w K mg base (L2.CX P w) k τ0 nm.KW nm.GN fs) (ef : τ.fa = τ0.fa) (ec : τ.cl = τ0.cl) (et : τ.tabs = τ0.tabs) (eK : τ.K = K) : FxB nm (fun i scr => callD fs scr i) (L2.CX P w) X τ E := by
  subst h1 h2 h3 h4 h5
  exact {
    gd := ⟨h7, by have := hr.un; omega, by rw [h6]; exact hN⟩
    N := h6
    fn := fun x i hi hn => by
      obtain ⟨⟨fd', ps', h1, h2, _⟩, h3, h4⟩ := T i x hi hn
      rw [← ef] at h1 h3 h4
      exact ⟨⟨fd', ps', k, by rw [spD_eq ef ec et]; exact h1, hr, h2⟩, h3, h4⟩
    bi := G.bi
    ps := passesE tk
    pb := fun X' e1 e2 => by
      have := passL (X := X')
      rw [e1, e2] at this
      exact this
    K := eK
    cn := G.cn
    tk := tk
    kw := fun f n ns x hc hi hn => by
      · obtain ⟨⟨fd', ps', h1, _, h2⟩, h3, h4⟩ := T f x hi hn
        rw [← ef] at h1 h3 h4
        refine ⟨⟨fd', ps', k, _, _, by rw [spD_eq ef ec et]; exact h1, hr, h2 _ (kwOf_mem hc), fun vs zs e1 e2 => ?_⟩, h3, h4⟩
        unfold gKw
        rw [if_pos ⟨e1, e2⟩]
    ex := fun c x hc hx => by
      obtain ⟨C, a1, a2⟩ := (G.ex c x hc hx).to
      rw [← ec] at a1
      exact ⟨⟨C, a1, a2⟩⟩ }
/-- `_law_result`, as it stands in the module -/
structure ResG (K : PySem.W.Frag) (mg : Str → Option Value) (τ0 : Tn) : Prop where
  to : ∃ (g : Addr) (st : Stmt) (fd : FuncData) (cs : Addr) (ca : Nat → Addr), L2.Fun K "_law_result" "_law_result" st g fd ∧ L2.Binds K fd ["_law_call"] [] ∧ FnScope resN ["_law_call"] (defScope st) ∧ ckRes (defScope st) (defBody st) = true ∧ mg "_law_result" = some (.ref g) ∧ PySem.W.keepIn K (.ref g) = true ∧
    mg "StepError" = some (.ref cs) ∧ (∀ (i : Nat) (x : Str), exN[i]? = some x → mg x = some (.ref (ca i))) ∧ mg "ValueError" = none ∧ mg "isinstance" = none ∧ mg "len" = none ∧ (∀ i, i < 12 → ExK K ca cs i) ∧ ∀ i, i < 12 → τ0.cl i = .ref (ca i)
/-- the table of a def's lambdas -/
structure LamT (mg : Str → Option Value) (base : Heap) (fd : FuncData) (qual : Str) (tabs : List (Addr × Str)) : Prop where
  to : ∃ c P : Addr, fd.code = .ref c ∧ LamX.TabB base mg c P ∧ (P, qual ++ ".<locals>." ++ "<lambda>") ∈ tabs ∧ ∀ p ∈ tabs, p.1 = P → p.2 = qual ++ ".<locals>." ++ "<lambda>"
/-- what lambdas ask, if there are any -/
def LamOk (K : PySem.W.Frag) (mg : Str → Option Value) (base : Heap) (τ0 : Tn) (nm : Nm) (fd : FuncData) (qual : Str) : Prop := ∀ sc e b, nm.rc sc e b = true → ck nm.flat sc e b = true ∧ ResG K mg τ0 ∧ LamT mg base fd qual τ0.tabs
theorem lam_of {nm : Nm} {τ0 τ : Tn} {fs : List (List Int → Fun)} {x qual : Str} {st : Stmt} {f : Addr} {fd : FuncData} {cdv : Value} {A : Around} {outer : List PySem.Env} {s : Shared} {H : Hp} {E : XK} (hN : nm.N.Nodup)
    (hr : Room (k + 2) (A.deeper (PyProof.Rows.envOfC qual (defScope st) s.heap.objs.size f cdv))) (hcd : fd.code = cdv) (G : Gx P w K mg base τ0 nm.CN nm.EX) (T : Tab P w K mg base (L2.CX P w) k τ0 nm.KW nm.GN fs) (L : LamOk K mg base τ0 nm fd qual)
    (ef : τ.fa = τ0.fa) (ec : τ.cl = τ0.cl) (et : τ.tabs = τ0.tabs) (eK : τ.K = K) : ∀ sc e b, nm.rc sc e b = true → ck nm.flat sc e b = true ∧ LamAt nm (fun i scr => callD fs scr i) (L2.CX P w) (cxOf (L2.CX P w) P w K mg base nm.N qual (defScope st) f cdv A outer s H E) τ := by
  intro sc e b h
  obtain ⟨h1, ⟨g, st', fd', cs, ca, a1, a2, a3, a4, a5, a6, a7, a8, a9, a10, a11, a12, a13⟩, ⟨c, P', b1, b2, b3, b4⟩⟩ := L sc e b h
  refine ⟨h1, ⟨g, c, P', k, st', fd', ca, cs, a1, a2, a3, a4, ⟨a5, a6, rfl⟩, ⟨a7, a8, a9, a10, a11, a12⟩, fun i hi => by rw [ec]; exact a13 i hi, b2, hcd.symm.trans b1, by rw [et]; exact b3, by rw [et]; exact b4, hr, fun X' E' e1 e2 e3 e4 e5 e6 e7 r tk => ?_⟩⟩
  exact fxb_of (nm := nm.flat) e1 e2 e3 e4 e5 e6 e7 hN r tk G T ef ec et eK
theorem body_ok {x qual : Str} {st : Stmt} {f : Addr} {fd : FuncData} {ps : List Str} {τ0 : Tn} {fs : List (List Int → Fun)} {nm : Nm} {cf : CF} {fu : Nat} (FU : L2.Fun K x qual st f fd) (S : FnScope nm.N ps (defScope st)) (G : Gx P w K mg base τ0 nm.CN nm.EX) (T : Tab P w K mg base (L2.CX P w) k τ0 nm.KW nm.GN fs)
    (L : ∀ (cdv : Value) (A : Around) (outer : List PySem.Env) (s : Shared) (H : Hp) (E : XK) (τ : Tn), fd.code = cdv → Room k (A.deeper (PyProof.Rows.envOfC qual (defScope st) s.heap.objs.size f cdv)) → τ.fa = τ0.fa → τ.cl = τ0.cl → τ.tabs = τ0.tabs → τ.K = K →
      ∀ sc e b, nm.rc sc e b = true → ck nm.flat sc e b = true ∧ LamAt nm (fun i scr => callD fs scr i) (L2.CX P w) (cxOf (L2.CX P w) P w K mg base nm.N qual (defScope st) f cdv A outer s H E) τ)
    (hnp : cf.np = ps.length) (hns : cf.ns = nm.N.length) (hc : ckSs nm (defScope st) cf.body (defBody st) = true) :
    FnOk P w K mg base (L2.CX P w) (k + 1) f fd ps (spD P w K τ0 fun scr => runF (callD fs scr) fu cf) := by
  have hle : ps.length ≤ nm.N.length := by
    have := congrArg List.length S.pre
    rw [List.length_take] at this
    omega
  refine Fun.okC FU S (fun vs H Q E h => ?_) fun cdv A outer s H vs Q E hcd hr h => ?_
  · obtain ⟨τ, s, ds, B, _, _, _, _, _, _, _, dv, h⟩ := h
    rw [dv.len, runF_len h, hnp]
  · obtain ⟨τ, tw, ds, B, ef, ec, et, eK, t, hT, hS, dv, h⟩ := h
    have h : Ok τ E H (runF (callD fs τ.scr) fu cf ds tw) _ := h
    have hl := runF_len h
    rw [runF_eq hl] at h
    have hX : Fx nm (fun i scr => callD fs scr i) (L2.CX P w) (cxOf (L2.CX P w) P w K mg base nm.N qual (defScope st) f cdv A outer s H E) τ E :=
      ⟨fxb_of rfl rfl rfl rfl rfl rfl rfl S.nd hr (L2.takes_of rfl rfl rfl rfl) G T ef ec et eK, L cdv A outer s H E τ hcd hr ef ec et eK⟩
    have bX : Bx (cxOf (L2.CX P w) P w K mg base nm.N qual (defScope st) f cdv A outer s H E) := ⟨by
      show (if (defScope st).kind.isAnnotationScope then ScopeKind.function else (defScope st).kind) = .function
      rw [S.kind]
      rfl, passes_of rfl, fun _ => rfl⟩
    obtain ⟨R, hO⟩ := rep_start (N := nm.N) t hT hS dv (by rw [hl, hnp]; exact hle)
    rw [hns] at h
    refine ⟨_, snSs (nm := nm) (Gs := fun i scr => callD fs scr i) (fu := fu) cf.body _ τ B E hX bX _ hc, env0 nm.N.length ds, tw, R, t, ?_⟩
    have hK : ∀ {H' : Hp}, Ke (Ch τ (env0 nm.N.length ds) (L2.start nm.N vs)) H H' → Xt τ H H' := fun k => k.mono fun a z => z.elim id fun z => absurd z (hO a)
    refine Wp.mono (Wp.bnd h) (fun fl s' q => ?_) fun c s' q H' k t' => q H' (hK k) t'
    cases fl with
    | nx env' => exact fun σ' H' p t' => q H' (hK p.ke) t' .non (Dv.weak (d := .dat _) .non)
    | rt d => exact fun v H' k t' dv => q H' (hK k) t' v dv
/-- THE DEF: its body, by the small language -/
theorem fn_ok {x qual : Str} {st : Stmt} {f : Addr} {fd : FuncData} {N ps : List Str} {τ0 : Tn} {names : List Str} {fs : List (List Int → Fun)} {CN : List (Str × PyData)} {KW : List (Nat × Nat × List Str)} {EX : List Nat} {cf : CF} {fu : Nat} (FU : L2.Fun K x qual st f fd) (S : FnScope N ps (defScope st)) (G : Gx P w K mg base τ0 CN EX) (T : Tab P w K mg base (L2.CX P w) k τ0 KW names fs)
    (hnp : cf.np = ps.length) (hns : cf.ns = N.length) (hc : ckSs ⟨N, names, CN, KW, EX, fun _ _ _ => false⟩ (defScope st) cf.body (defBody st) = true) :
    FnOk P w K mg base (L2.CX P w) (k + 1) f fd ps (spD P w K τ0 fun scr => runF (callD fs scr) fu cf) :=
  body_ok (nm := ⟨N, names, CN, KW, EX, fun _ _ _ => false⟩) FU S G T (fun _ _ _ _ _ _ _ _ _ _ _ _ _ _ _ _ z => by cases z) hnp hns hc
/-- the check of lambdas' bodies -/
def Nm.lam (nm : Nm) : Nm := { nm with rc := fun sc e b => ck nm.flat sc e b }
theorem fn_okL {x qual : Str} {st : Stmt} {f : Addr} {fd : FuncData} {N ps : List Str} {τ0 : Tn} {names : List Str} {fs : List (List Int → Fun)} {CN : List (Str × PyData)} {KW : List (Nat × Nat × List Str)} {EX : List Nat} {cf : CF} {fu : Nat} (FU : L2.Fun K x qual st f fd) (S : FnScope N ps (defScope st)) (G : Gx P w K mg base τ0 CN EX) (T : Tab P w K mg base (L2.CX P w) k τ0 KW names fs)
    (R : ResG K mg τ0) (L : LamT mg base fd qual τ0.tabs) (hnp : cf.np = ps.length) (hns : cf.ns = N.length) (hc : ckSs (Nm.lam ⟨N, names, CN, KW, EX, fun _ _ _ => false⟩) (defScope st) cf.body (defBody st) = true) :
    FnOk P w K mg base (L2.CX P w) (k + 3) f fd ps (spD P w K τ0 fun scr => runF (callD fs scr) fu cf) :=
  body_ok (nm := Nm.lam ⟨N, names, CN, KW, EX, fun _ _ _ => false⟩) FU S G (T.up (by omega)) (fun cdv A outer s H E τ hcd hr ef ec et eK => lam_of (x := x) S.nd hr hcd G T (fun _ _ _ h => ⟨h, R, L⟩) ef ec et eK) hnp hns hc
end
end BK
set_option Elab.async false
set_option linter.all false
set_option maxRecDepth 100000
set_option maxHeartbeats 4000000
/-! The draws. -/
namespace BK
open PySem L2
def lookR (rs : List (Int × Int)) (k : Int) : Option Int := (rs.find? fun p => decide (p.1 = k)).map (·.2)
def putR (rs : List (Int × Int)) (k v : Int) : List (Int × Int) := if (rs.any fun p => decide (p.1 = k)) = true then rs.map (fun p => if p.1 = k then (p.1, v) else p) else rs ++ [(k, v)]
def drawAt (scr : List Int) (c : Int) : Int := if scr = [] then 0 else c % scr.length
def drawDf (scr : List Int) (at_ : Int) : Int := if scr = [] then 0 else (atI scr at_).getD 0
def drawRest (scr : List Int) (s : Twn) : Int := (lookR s.rests (drawAt scr (s.cnt + 1))).getD (drawDf scr (drawAt scr (s.cnt + 1)))
def drawNum (rest c many : Int) : Int :=
  let n := (rest + 104729 * c) % 4294967291
  let n := n ^ 5 % 4294967279
  ((n / 64 * 69621 + n) % 4294967231) / 8 % many
def drawV (scr : List Int) (s : Twn) (many : Int) : Int :=
  if 10 ^ 18 ≤ drawRest scr s then drawRest scr s % many else drawNum (drawRest scr s) (s.cnt + 1) many
def drawN (scr : List Int) (s : Twn) (many : Int) : Twn :=
  if 10 ^ 18 ≤ drawRest scr s then ⟨s.cnt + 1, putR s.rests (drawAt scr (s.cnt + 1)) (drawRest scr s / many)⟩ else ⟨s.cnt + 1, s.rests⟩
def drawArg : List D → Option Int
  | [.scr, .town, .dat (.int many)] => some many
  | _ => none
theorem drawArg_of {ds : List D} {many : Int} (h : drawArg ds = some many) : ds = [.scr, .town, int many] := by
  unfold drawArg at h
  split at h
  · cases h
    rfl
  · cases h
def drawM (scr : List Int) (many : Int) : M D := fun s => if 0 < many ∧ many ≤ 1000 ∧ s.rests.length < 1000 ∧ scr.length ≤ 1000 then .ok (int (drawV scr s many)) (drawN scr s many) else .stuck
def drawF (scr : List Int) : Fun := fun ds => do
  let many ← M.of (drawArg ds)
  drawM scr many
theorem drawF_of {scr : List Int} {ds : List D} {tw : Twn} {Q : D → Twn → Prop} {E : Nat → Twn → Prop} (h : Wp (drawF scr ds tw) Q E) : ∃ many, ds = [.scr, .town, int many] ∧ 0 < many ∧ many ≤ 1000 ∧ tw.rests.length < 1000 ∧ scr.length ≤ 1000 ∧ Q (int (drawV scr tw many)) (drawN scr tw many) := by
  obtain ⟨many, hd, h⟩ := Wp.of (Wp.bnd h)
  refine ⟨many, drawArg_of hd, ?_⟩
  unfold drawM at h
  by_cases hc : 0 < many ∧ many ≤ 1000 ∧ tw.rests.length < 1000 ∧ scr.length ≤ 1000
  · rw [if_pos hc] at h
    exact ⟨hc.1, hc.2.1, hc.2.2.1, hc.2.2.2, h⟩
  · rw [if_neg hc] at h
    exact h.elim
section
variable {τ : Tn} {H : Hp} {s : Twn}
theorem dk_ke {a : Addr} {kvs kvs' : List (Key × V)} (h : H a = some (.dK kvs)) : Ke (fun b => b = a) H (upd H a (.dK kvs')) := by
  refine ⟨fun b o n _ e => by rw [upd_ne n]; exact e, fun b n => ?_, fun b zs r => ?_⟩
  · by_cases e : b = a
    · rw [e, upd_same]; simp
    · rw [upd_ne e]; exact n
  · have e : b ≠ a := fun e => by
      rcases r with r | ⟨o, r⟩ <;> rw [e, h] at r <;> cases r
    unfold Rd
    rw [upd_ne e]
    exact r
theorem dk_tabs {T : List (Addr × Str)} {a : Addr} {kvs kvs' : List (Key × V)} (h : H a = some (.dK kvs)) (t : LamX.Tabs T H) : LamX.Tabs T (upd H a (.dK kvs')) := fun p hp => by
  obtain ⟨ps, h1, h2, h3⟩ := t p hp
  refine ⟨ps, ?_, h2, fun pos cv hc => ?_⟩
  · rw [upd_ne (fun e => by rw [e, h] at h1; cases h1)]
    exact h1
  · obtain ⟨c, e1, e2⟩ := h3 pos cv hc
    exact ⟨c, e1, by rw [upd_ne (fun e => by rw [e, h] at e2; cases e2)]; exact e2⟩
theorem dk_scr {a : Addr} {kvs kvs' : List (Key × V)} (h : H a = some (.dK kvs)) (t : Scr τ H) : Scr τ (upd H a (.dK kvs')) := by
  refine t.upd fun z e => ?_
  unfold Scr at t
  rw [if_pos z, ← e] at t
  rcases t with t | ⟨o, t⟩ <;> rw [h] at t <;> cases t
abbrev restsV (s : Twn) : List (Key × V) := s.rests.map fun p => (.inl p.1, .int p.2)
theorem put_count {c : Int} {ra : Addr} {v : V} : putK [((.inr "count" : Key), V.int c), (.inr "rests", V.ref ra)] (.inr "count") v = [(.inr "count", v), (.inr "rests", V.ref ra)] := by
  have e2 : ¬ ((.inr "rests" : Key) = .inr "count") := by
    intro z
    exact absurd (Sum.inr.inj z) (by decide)
  simp [putK, e2]
theorem val_count {c : Int} {ra : Addr} : valV [((.inr "count" : Key), V.int c), (.inr "rests", V.ref ra)] (.inr "count") = some (.int c) := by
  simp [valV]
theorem val_rests {c : Int} {ra : Addr} : valV [((.inr "count" : Key), V.int c), (.inr "rests", V.ref ra)] (.inr "rests") = some (.ref ra) := by
  have e2 : ¬ ((.inr "count" : Key) = .inr "rests") := by
    intro z
    exact absurd (Sum.inr.inj z) (by decide)
  simp [valV, e2]
theorem val_rest : ∀ (rs : List (Int × Int)) (k : Int), valV (rs.map fun p => ((.inl p.1 : Key), V.int p.2)) (.inl k) = (lookR rs k).map V.int
  | [], k => rfl
  | p :: rs, k => by
    have ih := val_rest rs k
    unfold valV lookR at ih ⊢
    rw [List.map_cons, List.find?_cons, List.find?_cons]
    by_cases e : p.1 = k
    · simp [e]
    · have e2 : ¬ ((.inl p.1 : Key) = .inl k) := fun z => e (Sum.inl.inj z)
      simp only [e, e2, decide_false]
      exact ih
theorem put_rest (rs : List (Int × Int)) (k v : Int) : putK (rs.map fun p => ((.inl p.1 : Key), V.int p.2)) (.inl k) (.int v) = (putR rs k v).map fun p => ((.inl p.1 : Key), V.int p.2) := by
  have e1 : ((rs.map fun p => ((.inl p.1 : Key), V.int p.2)).any fun kv => decide (kv.1 = .inl k)) = rs.any fun p => decide (p.1 = k) := by
    rw [List.any_map]
    congr 1
    funext p
    simp [Function.comp]
  unfold putK putR
  rw [e1]
  split
  · rw [List.map_map, List.map_map]
    congr 1
    funext p
    simp only [Function.comp]
    by_cases e : p.1 = k
    · simp [e]
    · have e2 : ¬ ((.inl p.1 : Key) = .inl k) := fun z => e (Sum.inl.inj z)
      simp [e]
  · simp
/-- the count is one more -/
theorem TownR.count (t : TownR τ H s) : TownR τ (L2.upd H τ.ta (.dK [(.inr "count", .int (s.cnt + 1)), (.inr "rests", .ref τ.ra)])) ⟨s.cnt + 1, s.rests⟩ :=
  ⟨upd_same, by rw [upd_ne (Ne.symm t.2.2.1)]; exact t.2.1, t.2.2.1, dk_tabs t.1 t.2.2.2.1, dk_scr t.1 t.2.2.2.2⟩
theorem TownR.rest (t : TownR τ H s) {rs : List (Int × Int)} : TownR τ (L2.upd H τ.ra (.dK (rs.map fun p => (.inl p.1, .int p.2)))) ⟨s.cnt, rs⟩ :=
  ⟨by rw [upd_ne t.2.2.1]; exact t.1, upd_same, t.2.2.1, dk_tabs t.2.1 t.2.2.2.1, dk_scr t.2.1 t.2.2.2.2⟩
theorem xt_count (t : TownR τ H s) {kvs : List (Key × V)} : Xt τ H (upd H τ.ta (.dK kvs)) := (dk_ke t.1).mono fun b e => .inl e
theorem xt_rest (t : TownR τ H s) {kvs : List (Key × V)} : Xt τ H (upd H τ.ra (.dK kvs)) := (dk_ke t.2.1).mono fun b e => .inr e
theorem dg_count (t : TownR τ H s) : DGet H τ.ta (.str "count") (some (.int s.cnt)) := .inl ⟨_, .inr "count", .inl t.1, rfl, val_count.symm⟩
theorem dg_rests (t : TownR τ H s) : DGet H τ.ta (.str "rests") (some (.ref τ.ra)) := .inl ⟨_, .inr "rests", .inl t.1, rfl, val_rests.symm⟩
theorem dp_count (t : TownR τ H s) : DPut H τ.ta (.str "count") (.int (s.cnt + 1)) (L2.upd H τ.ta (.dK [(.inr "count", .int (s.cnt + 1)), (.inr "rests", .ref τ.ra)])) := by
  refine .inl ⟨_, .inr "count", t.1, rfl, ?_, ?_⟩
  · rw [sizeLine_eq]
    exact (by decide : 2 < 16777216)
  · rw [put_count]
theorem dg_rest (t : TownR τ H s) (k : Int) : DGet H τ.ra (.int k) ((lookR s.rests k).map V.int) := .inl ⟨_, .inl k, .inl t.2.1, rfl, (val_rest _ _).symm⟩
theorem dp_rest (t : TownR τ H s) (hl : s.rests.length < 1000) (k v : Int) : DPut H τ.ra (.int k) (.int v) (L2.upd H τ.ra (.dK ((putR s.rests k v).map fun p => (.inl p.1, .int p.2)))) := by
  refine .inl ⟨_, .inl k, t.2.1, rfl, ?_, ?_⟩
  · rw [sizeLine_eq, List.length_map]
    omega
  · rw [put_rest]
theorem getD_map (o : Option Int) (d : Int) : (o.map V.int).getD (.int d) = .int (o.getD d) := by
  cases o <;> rfl
theorem atI_map {α β : Type} (f : α → β) (xs : List α) (i : Int) : atI (xs.map f) i = (atI xs i).map f := by
  unfold atI
  rw [List.length_map]
  cases ixN xs.length i with
  | none => rfl
  | some j => simp
theorem at_there {scr : List Int} {c : Int} (h : scr ≠ []) : ∃ v, atI scr (c % scr.length) = some v := by
  have hl : 0 < scr.length := List.length_pos_iff.mpr h
  have h0 : 0 ≤ c % (scr.length : Int) := Int.emod_nonneg _ (by omega)
  have h1 : c % (scr.length : Int) < scr.length := Int.emod_lt_of_pos _ (by omega)
  unfold atI ixN
  rw [if_pos h0, if_pos h1]
  have : (c % (scr.length : Int)).toNat < scr.length := by omega
  exact ⟨scr[(c % (scr.length : Int)).toNat], by simp [this]⟩
theorem at_ok {K : PySem.W.Frag} {σ : L2.St} {Q : VK} (h0 : σ[0]? = some (some (V.ref τ.sa))) (h1 : σ[1]? = some (some (V.ref τ.ta))) (t : TownR τ H s) (hs : SqL K H τ.sa (τ.scr.map V.int)) (q : Q (.int (drawAt τ.scr s.cnt)) H) :
    tIf (fun σ H Q => tVar 0 σ H fun x H' => ∃ k, TruV K x H' k ∧ Q k H') (tOp (rI (fun _ j => 0 < j) fun i j => .int (i % j)) (tDGet (tVar 1) (tC (.str "count"))) (tCB (fun xs H Q => ∃ p ys, xs = [.ref p] ∧ (SqL K H p ys ∨ SqT K H p ys) ∧ Q (.int ys.length) H) (tCons (tVar 0) tNil))) (tC (.int 0)) σ H Q := by
  refine ⟨.ref τ.sa, h0, !(τ.scr.map V.int).isEmpty, .inl ⟨_, hs, rfl⟩, ?_⟩
  by_cases hc : τ.scr = []
  · rw [hc]
    show Q (.int 0) H
    unfold drawAt at q
    rw [if_pos hc] at q
    exact q
  · have hk : (!(τ.scr.map V.int).isEmpty) = true := by
      cases hq : τ.scr with
      | nil => exact absurd hq hc
      | cons a b => rfl
    rw [hk]
    dsimp only
    rw [if_pos rfl]
    have hl : 0 < τ.scr.length := List.length_pos_iff.mpr hc
    refine ⟨.ref τ.ta, h1, τ.ta, .int s.cnt, rfl, dg_count t, .ref τ.sa, h0, τ.sa, _, rfl, .inl hs, s.cnt, _, rfl, rfl, ?_, ?_⟩
    · rw [List.length_map]
      omega
    · rw [List.length_map]
      unfold drawAt at q
      rw [if_neg hc] at q
      exact q
theorem df_ok {K : PySem.W.Frag} {σ : L2.St} {Q : VK} {c : Int} (h0 : σ[0]? = some (some (V.ref τ.sa))) (h3 : σ[3]? = some (some (V.int (drawAt τ.scr c)))) (hs : SqL K H τ.sa (τ.scr.map V.int)) (q : Q (.int (drawDf τ.scr (drawAt τ.scr c))) H) :
    tIf (fun σ H Q => tVar 0 σ H fun x H' => ∃ k, TruV K x H' k ∧ Q k H') (tOp (rIxL K) (tVar 0) (tVar 3)) (tC (.int 0)) σ H Q := by
  refine ⟨.ref τ.sa, h0, !(τ.scr.map V.int).isEmpty, .inl ⟨_, hs, rfl⟩, ?_⟩
  by_cases hc : τ.scr = []
  · rw [hc]
    show Q (.int 0) H
    unfold drawDf at q
    rw [if_pos hc] at q
    exact q
  · have hk : (!(τ.scr.map V.int).isEmpty) = true := by
      cases hq : τ.scr with
      | nil => exact absurd hq hc
      | cons a b => rfl
    rw [hk]
    dsimp only
    rw [if_pos rfl]
    obtain ⟨v, hv⟩ := at_there (c := c) hc
    refine ⟨.ref τ.sa, h0, _, h3, τ.sa, _, _, .int v, rfl, rfl, hs, ?_, ?_⟩
    · unfold drawAt
      rw [if_neg hc, atI_map, hv]
      rfl
    · unfold drawDf at q
      rw [if_neg hc] at q
      have : atI τ.scr (drawAt τ.scr c) = some v := by
        unfold drawAt
        rw [if_neg hc]
        exact hv
      rw [this] at q
      exact q
end
end BK
set_option Elab.async false
set_option linter.all false
set_option maxRecDepth 100000
set_option maxHeartbeats 4000000
namespace BP
open PySem BK L2
abbrev fs0 : List (List Int → Fun) := []
abbrev n_is_between : List Str := ["value", "low", "high"]
abbrev p_is_between : List Str := ["value", "low", "high"]
abbrev c_is_between : CF := ⟨3, 3,
    (.cons (.ret (.and (.cons (.isi (.var 0) .int) (.cons (.not (.isi (.var 0) .bool)) (.cons (.chn (.var 1) (.var 0) (.var 2)) .nil)))))
    .nil)⟩
@[irreducible] def f_is_between (scr : List Int) : Fun := runF (callD fs0 scr) 100000 c_is_between
theorem u_is_between : f_is_between = fun scr => runF (callD fs0 scr) 100000 c_is_between := by
  unfold f_is_between
  rfl
abbrev fs1 : List (List Int → Fun) := [BP.f_is_between]
abbrev n_check_items : List Str := ["items"]
abbrev p_check_items : List Str := ["items"]
abbrev c_check_items : CF := ⟨1, 1,
    (.cons (.iff (.not (.call 0 (.cons (.var 0) (.cons (.cst (PyData.int 1)) (.cons (.cst (PyData.int 3)) .nil)))))
    (.cons (.rai 0)
    .nil)
    .nil)
    .nil)⟩
@[irreducible] def f_check_items (scr : List Int) : Fun := runF (callD fs1 scr) 100000 c_check_items
theorem u_check_items : f_check_items = fun scr => runF (callD fs1 scr) 100000 c_check_items := by
  unfold f_check_items
  rfl
theorem cd_1_0 (scr : List Int) : callD fs1 scr 0 = BP.f_is_between scr := rfl
abbrev fs2 : List (List Int → Fun) := [BP.f_is_between, BP.f_check_items]
abbrev n_is_state_of : List Str := ["items", "value", "one"]
abbrev p_is_state_of : List Str := ["items", "value"]
abbrev c_is_state_of : CF := ⟨2, 3,
    (.cons (.ret (.and (.cons (.isi (.var 1) .tuple) (.cons (.cmp .eq (.p1 .len (.var 1)) (.var 0)) (.cons (.p1 .all (.lc [2] (.v 2) (.seq (.var 1)) (.call 0 (.cons (.var 2) (.cons (.cst (PyData.int 0)) (.cons (.cst (PyData.int 2)) .nil)))))) .nil)))))
    .nil)⟩
@[irreducible] def f_is_state_of (scr : List Int) : Fun := runF (callD fs2 scr) 100000 c_is_state_of
theorem u_is_state_of : f_is_state_of = fun scr => runF (callD fs2 scr) 100000 c_is_state_of := by
  unfold f_is_state_of
  rfl
theorem cd_2_0 (scr : List Int) : callD fs2 scr 0 = BP.f_is_between scr := rfl
abbrev fs3 : List (List Int → Fun) := [BP.f_is_between, BP.f_check_items, BP.f_is_state_of]
abbrev n_is_operation : List Str := ["items", "value"]
abbrev p_is_operation : List Str := ["items", "value"]
abbrev c_is_operation : CF := ⟨2, 2,
    (.cons (.iff (.or (.cons (.not (.isi (.var 1) .tuple)) (.cons (.cmp .ne (.p1 .len (.var 1)) (.cst (PyData.int 3))) (.cons (.not (.call 0 (.cons (.idx (.var 1) (.cst (PyData.int 1))) (.cons (.cst (PyData.int 0)) (.cons (.bin .sub (.var 0) (.cst (PyData.int 1))) .nil))))) .nil))))
    (.cons (.ret (.cst (PyData.bool false)))
    .nil)
    .nil)
    (.cons (.iff (.not (.isi (.idx (.var 1) (.cst (PyData.int 0))) .str))
    (.cons (.ret (.cst (PyData.bool false)))
    .nil)
    .nil)
    (.cons (.iff (.cmp .eq (.idx (.var 1) (.cst (PyData.int 0))) (.cst (PyData.str ("set" : Str))))
    (.cons (.ret (.call 0 (.cons (.idx (.var 1) (.cst (PyData.int 2))) (.cons (.cst (PyData.int 0)) (.cons (.cst (PyData.int 2)) .nil)))))
    .nil)
    .nil)
    (.cons (.iff (.cmp .eq (.idx (.var 1) (.cst (PyData.int 0))) (.cst (PyData.str ("add" : Str))))
    (.cons (.ret (.call 0 (.cons (.idx (.var 1) (.cst (PyData.int 2))) (.cons (.cst (PyData.int 1)) (.cons (.cst (PyData.int 2)) .nil)))))
    .nil)
    .nil)
    (.cons (.ret (.and (.cons (.cmp .eq (.idx (.var 1) (.cst (PyData.int 0))) (.cst (PyData.str ("copy" : Str)))) (.cons (.call 0 (.cons (.idx (.var 1) (.cst (PyData.int 2))) (.cons (.cst (PyData.int 0)) (.cons (.bin .sub (.var 0) (.cst (PyData.int 1))) .nil)))) (.cons (.cmp .ne (.idx (.var 1) (.cst (PyData.int 1))) (.idx (.var 1) (.cst (PyData.int 2)))) .nil)))))
    .nil)))))⟩
@[irreducible] def f_is_operation (scr : List Int) : Fun := runF (callD fs3 scr) 100000 c_is_operation
theorem u_is_operation : f_is_operation = fun scr => runF (callD fs3 scr) 100000 c_is_operation := by
  unfold f_is_operation
  rfl
theorem cd_3_0 (scr : List Int) : callD fs3 scr 0 = BP.f_is_between scr := rfl
abbrev fs4 : List (List Int → Fun) := [BP.f_is_between, BP.f_check_items, BP.f_is_state_of, BP.f_is_operation]
abbrev n_is_action_of : List Str := ["items", "value", "one"]
abbrev p_is_action_of : List Str := ["items", "value"]
abbrev c_is_action_of : CF := ⟨2, 3,
    (.cons (.ret (.and (.cons (.isi (.var 1) .tuple) (.cons (.cmp .le (.p1 .len (.var 1)) (.cst (PyData.int 3))) (.cons (.p1 .all (.lc [2] (.v 2) (.seq (.var 1)) (.call 3 (.cons (.var 0) (.cons (.var 2) .nil))))) .nil)))))
    .nil)⟩
@[irreducible] def f_is_action_of (scr : List Int) : Fun := runF (callD fs4 scr) 100000 c_is_action_of
theorem u_is_action_of : f_is_action_of = fun scr => runF (callD fs4 scr) 100000 c_is_action_of := by
  unfold f_is_action_of
  rfl
theorem cd_4_3 (scr : List Int) : callD fs4 scr 3 = BP.f_is_operation scr := rfl
abbrev fs5 : List (List Int → Fun) := [BP.f_is_between, BP.f_check_items, BP.f_is_state_of, BP.f_is_operation, BP.f_is_action_of]
abbrev n_check_action : List Str := ["items", "action"]
abbrev p_check_action : List Str := ["items", "action"]
abbrev c_check_action : CF := ⟨2, 2,
    (.cons (.iff (.not (.call 4 (.cons (.var 0) (.cons (.var 1) .nil))))
    (.cons (.rai 1)
    .nil)
    .nil)
    .nil)⟩
@[irreducible] def f_check_action (scr : List Int) : Fun := runF (callD fs5 scr) 100000 c_check_action
theorem u_check_action : f_check_action = fun scr => runF (callD fs5 scr) 100000 c_check_action := by
  unfold f_check_action
  rfl
theorem cd_5_4 (scr : List Int) : callD fs5 scr 4 = BP.f_is_action_of scr := rfl
abbrev fs6 : List (List Int → Fun) := [BP.f_is_between, BP.f_check_items, BP.f_is_state_of, BP.f_is_operation, BP.f_is_action_of, BP.f_check_action]
abbrev n_applied : List Str := ["action", "state", "found", "name", "item", "value"]
abbrev p_applied : List Str := ["action", "state"]
abbrev c_applied : CF := ⟨2, 6,
    (.cons (.own 2 (.p1 .list (.var 1)))
    (.cons (.for (.t [(.v 3), (.v 4), (.v 5)]) (.seq (.var 0))
    (.cons (.iff (.cmp .eq (.var 3) (.cst (PyData.str ("set" : Str))))
    (.cons (.sto 2 (.var 4) (.var 5))
    .nil)
    (.cons (.iff (.cmp .eq (.var 3) (.cst (PyData.str ("add" : Str))))
    (.cons (.sto 2 (.var 4) (.bin .mod (.bin .add (.idx (.var 2) (.var 4)) (.var 5)) (.cst (PyData.int 3))))
    .nil)
    (.cons (.sto 2 (.var 5) (.idx (.var 2) (.var 4)))
    .nil))
    .nil))
    .nil))
    (.cons (.ret (.p1 .tuple (.var 2)))
    .nil)))⟩
@[irreducible] def f_applied (scr : List Int) : Fun := runF (callD fs6 scr) 100000 c_applied
theorem u_applied : f_applied = fun scr => runF (callD fs6 scr) 100000 c_applied := by
  unfold f_applied
  rfl
abbrev fs7 : List (List Int → Fun) := [BP.f_is_between, BP.f_check_items, BP.f_is_state_of, BP.f_is_operation, BP.f_is_action_of, BP.f_check_action, BP.f_applied]
abbrev n_after : List Str := ["items", "action", "state"]
abbrev p_after : List Str := ["items", "action", "state"]
abbrev c_after : CF := ⟨3, 3,
    (.cons (.exp (.call 1 (.cons (.var 0) .nil)))
    (.cons (.exp (.call 5 (.cons (.var 0) (.cons (.var 1) .nil))))
    (.cons (.iff (.not (.call 2 (.cons (.var 0) (.cons (.var 2) .nil))))
    (.cons (.rai 2)
    .nil)
    .nil)
    (.cons (.ret (.call 6 (.cons (.var 1) (.cons (.var 2) .nil))))
    .nil))))⟩
@[irreducible] def f_after (scr : List Int) : Fun := runF (callD fs7 scr) 100000 c_after
theorem u_after : f_after = fun scr => runF (callD fs7 scr) 100000 c_after := by
  unfold f_after
  rfl
theorem cd_7_1 (scr : List Int) : callD fs7 scr 1 = BP.f_check_items scr := rfl
theorem cd_7_2 (scr : List Int) : callD fs7 scr 2 = BP.f_is_state_of scr := rfl
theorem cd_7_5 (scr : List Int) : callD fs7 scr 5 = BP.f_check_action scr := rfl
theorem cd_7_6 (scr : List Int) : callD fs7 scr 6 = BP.f_applied scr := rfl
abbrev fs8 : List (List Int → Fun) := [BP.f_is_between, BP.f_check_items, BP.f_is_state_of, BP.f_is_operation, BP.f_is_action_of, BP.f_check_action, BP.f_applied, BP.f_after]
abbrev n_states_of : List Str := ["items", "rows", "turn", "longer", "row", "value"]
abbrev p_states_of : List Str := ["items"]
abbrev c_states_of : CF := ⟨1, 6,
    (.cons (.asg (.v 1) (.lst (.cons (.tup .nil) .nil)))
    (.cons (.for (.v 2) (.rng (.var 0))
    (.cons (.own 3 (.lst .nil))
    (.cons (.for (.v 4) (.seq (.var 1))
    (.cons (.ext 3 (.lc [5] (.v 5) (.rng (.cst (PyData.int 3))) (.bin .add (.var 4) (.tup (.cons (.var 5) .nil)))))
    .nil))
    (.cons (.frz [3])
    (.cons (.asg (.v 1) (.var 3))
    .nil)))))
    (.cons (.ret (.var 1))
    .nil)))⟩
@[irreducible] def f_states_of (scr : List Int) : Fun := runF (callD fs8 scr) 100000 c_states_of
theorem u_states_of : f_states_of = fun scr => runF (callD fs8 scr) 100000 c_states_of := by
  unfold f_states_of
  rfl
abbrev fs9 : List (List Int → Fun) := [BP.f_is_between, BP.f_check_items, BP.f_is_state_of, BP.f_is_operation, BP.f_is_action_of, BP.f_check_action, BP.f_applied, BP.f_after, BP.f_states_of]
abbrev n_all_states : List Str := ["items"]
abbrev p_all_states : List Str := ["items"]
abbrev c_all_states : CF := ⟨1, 1,
    (.cons (.exp (.call 1 (.cons (.var 0) .nil)))
    (.cons (.ret (.p1 .tuple (.call 8 (.cons (.var 0) .nil))))
    .nil))⟩
@[irreducible] def f_all_states (scr : List Int) : Fun := runF (callD fs9 scr) 100000 c_all_states
theorem u_all_states : f_all_states = fun scr => runF (callD fs9 scr) 100000 c_all_states := by
  unfold f_all_states
  rfl
theorem cd_9_1 (scr : List Int) : callD fs9 scr 1 = BP.f_check_items scr := rfl
theorem cd_9_8 (scr : List Int) : callD fs9 scr 8 = BP.f_states_of scr := rfl
abbrev fs10 : List (List Int → Fun) := [BP.f_is_between, BP.f_check_items, BP.f_is_state_of, BP.f_is_operation, BP.f_is_action_of, BP.f_check_action, BP.f_applied, BP.f_after, BP.f_states_of, BP.f_all_states]
abbrev n_first_unlike : List Str := ["items", "one", "other", "state"]
abbrev p_first_unlike : List Str := ["items", "one", "other"]
abbrev c_first_unlike : CF := ⟨3, 4,
    (.cons (.for (.v 3) (.seq (.call 8 (.cons (.var 0) .nil)))
    (.cons (.iff (.cmp .ne (.call 6 (.cons (.var 1) (.cons (.var 3) .nil))) (.call 6 (.cons (.var 2) (.cons (.var 3) .nil))))
    (.cons (.ret (.var 3))
    .nil)
    .nil)
    .nil))
    (.cons (.ret (.cst PyData.none))
    .nil))⟩
@[irreducible] def f_first_unlike (scr : List Int) : Fun := runF (callD fs10 scr) 100000 c_first_unlike
theorem u_first_unlike : f_first_unlike = fun scr => runF (callD fs10 scr) 100000 c_first_unlike := by
  unfold f_first_unlike
  rfl
theorem cd_10_6 (scr : List Int) : callD fs10 scr 6 = BP.f_applied scr := rfl
theorem cd_10_8 (scr : List Int) : callD fs10 scr 8 = BP.f_states_of scr := rfl
abbrev fs11 : List (List Int → Fun) := [BP.f_is_between, BP.f_check_items, BP.f_is_state_of, BP.f_is_operation, BP.f_is_action_of, BP.f_check_action, BP.f_applied, BP.f_after, BP.f_states_of, BP.f_all_states, BP.f_first_unlike]
abbrev n_repeat_state : List Str := ["items", "action"]
abbrev p_repeat_state : List Str := ["items", "action"]
abbrev c_repeat_state : CF := ⟨2, 2,
    (.cons (.exp (.call 1 (.cons (.var 0) .nil)))
    (.cons (.exp (.call 5 (.cons (.var 0) (.cons (.var 1) .nil))))
    (.cons (.ret (.call 10 (.cons (.var 0) (.cons (.var 1) (.cons (.bin .add (.var 1) (.var 1)) .nil)))))
    .nil)))⟩
@[irreducible] def f_repeat_state (scr : List Int) : Fun := runF (callD fs11 scr) 100000 c_repeat_state
theorem u_repeat_state : f_repeat_state = fun scr => runF (callD fs11 scr) 100000 c_repeat_state := by
  unfold f_repeat_state
  rfl
theorem cd_11_1 (scr : List Int) : callD fs11 scr 1 = BP.f_check_items scr := rfl
theorem cd_11_5 (scr : List Int) : callD fs11 scr 5 = BP.f_check_action scr := rfl
theorem cd_11_10 (scr : List Int) : callD fs11 scr 10 = BP.f_first_unlike scr := rfl
abbrev fs12 : List (List Int → Fun) := [BP.f_is_between, BP.f_check_items, BP.f_is_state_of, BP.f_is_operation, BP.f_is_action_of, BP.f_check_action, BP.f_applied, BP.f_after, BP.f_states_of, BP.f_all_states, BP.f_first_unlike, BP.f_repeat_state]
abbrev n_exchange_state : List Str := ["items", "one", "other"]
abbrev p_exchange_state : List Str := ["items", "one", "other"]
abbrev c_exchange_state : CF := ⟨3, 3,
    (.cons (.exp (.call 1 (.cons (.var 0) .nil)))
    (.cons (.exp (.call 5 (.cons (.var 0) (.cons (.var 1) .nil))))
    (.cons (.exp (.call 5 (.cons (.var 0) (.cons (.var 2) .nil))))
    (.cons (.ret (.call 10 (.cons (.var 0) (.cons (.bin .add (.var 1) (.var 2)) (.cons (.bin .add (.var 2) (.var 1)) .nil)))))
    .nil))))⟩
@[irreducible] def f_exchange_state (scr : List Int) : Fun := runF (callD fs12 scr) 100000 c_exchange_state
theorem u_exchange_state : f_exchange_state = fun scr => runF (callD fs12 scr) 100000 c_exchange_state := by
  unfold f_exchange_state
  rfl
theorem cd_12_1 (scr : List Int) : callD fs12 scr 1 = BP.f_check_items scr := rfl
theorem cd_12_5 (scr : List Int) : callD fs12 scr 5 = BP.f_check_action scr := rfl
theorem cd_12_10 (scr : List Int) : callD fs12 scr 10 = BP.f_first_unlike scr := rfl
abbrev fs13 : List (List Int → Fun) := [BP.f_is_between, BP.f_check_items, BP.f_is_state_of, BP.f_is_operation, BP.f_is_action_of, BP.f_check_action, BP.f_applied, BP.f_after, BP.f_states_of, BP.f_all_states, BP.f_first_unlike, BP.f_repeat_state, BP.f_exchange_state]
abbrev n_back_state : List Str := ["items", "action", "back"]
abbrev p_back_state : List Str := ["items", "action", "back"]
abbrev c_back_state : CF := ⟨3, 3,
    (.cons (.exp (.call 1 (.cons (.var 0) .nil)))
    (.cons (.exp (.call 5 (.cons (.var 0) (.cons (.var 1) .nil))))
    (.cons (.exp (.call 5 (.cons (.var 0) (.cons (.var 2) .nil))))
    (.cons (.ret (.call 10 (.cons (.var 0) (.cons (.bin .add (.var 1) (.var 2)) (.cons (.tup .nil) .nil)))))
    .nil))))⟩
@[irreducible] def f_back_state (scr : List Int) : Fun := runF (callD fs13 scr) 100000 c_back_state
theorem u_back_state : f_back_state = fun scr => runF (callD fs13 scr) 100000 c_back_state := by
  unfold f_back_state
  rfl
theorem cd_13_1 (scr : List Int) : callD fs13 scr 1 = BP.f_check_items scr := rfl
theorem cd_13_5 (scr : List Int) : callD fs13 scr 5 = BP.f_check_action scr := rfl
theorem cd_13_10 (scr : List Int) : callD fs13 scr 10 = BP.f_first_unlike scr := rfl
abbrev fs14 : List (List Int → Fun) := [BP.f_is_between, BP.f_check_items, BP.f_is_state_of, BP.f_is_operation, BP.f_is_action_of, BP.f_check_action, BP.f_applied, BP.f_after, BP.f_states_of, BP.f_all_states, BP.f_first_unlike, BP.f_repeat_state, BP.f_exchange_state, BP.f_back_state]
abbrev n_loses_nothing : List Str := ["items", "action", "some", "state"]
abbrev p_loses_nothing : List Str := ["items", "action"]
abbrev c_loses_nothing : CF := ⟨2, 4,
    (.cons (.asg (.v 2) (.call 8 (.cons (.var 0) .nil)))
    (.cons (.ret (.cmp .eq (.lset (.lc [3] (.v 3) (.seq (.var 2)) (.call 6 (.cons (.var 1) (.cons (.var 3) .nil))))) (.p1 .len (.var 2))))
    .nil))⟩
@[irreducible] def f_loses_nothing (scr : List Int) : Fun := runF (callD fs14 scr) 100000 c_loses_nothing
theorem u_loses_nothing : f_loses_nothing = fun scr => runF (callD fs14 scr) 100000 c_loses_nothing := by
  unfold f_loses_nothing
  rfl
theorem cd_14_6 (scr : List Int) : callD fs14 scr 6 = BP.f_applied scr := rfl
theorem cd_14_8 (scr : List Int) : callD fs14 scr 8 = BP.f_states_of scr := rfl
abbrev fs15 : List (List Int → Fun) := [BP.f_is_between, BP.f_check_items, BP.f_is_state_of, BP.f_is_operation, BP.f_is_action_of, BP.f_check_action, BP.f_applied, BP.f_after, BP.f_states_of, BP.f_all_states, BP.f_first_unlike, BP.f_repeat_state, BP.f_exchange_state, BP.f_back_state, BP.f_loses_nothing]
abbrev n_is_reversible : List Str := ["items", "action"]
abbrev p_is_reversible : List Str := ["items", "action"]
abbrev c_is_reversible : CF := ⟨2, 2,
    (.cons (.exp (.call 1 (.cons (.var 0) .nil)))
    (.cons (.exp (.call 5 (.cons (.var 0) (.cons (.var 1) .nil))))
    (.cons (.ret (.call 14 (.cons (.var 0) (.cons (.var 1) .nil))))
    .nil)))⟩
@[irreducible] def f_is_reversible (scr : List Int) : Fun := runF (callD fs15 scr) 100000 c_is_reversible
theorem u_is_reversible : f_is_reversible = fun scr => runF (callD fs15 scr) 100000 c_is_reversible := by
  unfold f_is_reversible
  rfl
theorem cd_15_1 (scr : List Int) : callD fs15 scr 1 = BP.f_check_items scr := rfl
theorem cd_15_5 (scr : List Int) : callD fs15 scr 5 = BP.f_check_action scr := rfl
theorem cd_15_14 (scr : List Int) : callD fs15 scr 14 = BP.f_loses_nothing scr := rfl
abbrev fs16 : List (List Int → Fun) := [BP.f_is_between, BP.f_check_items, BP.f_is_state_of, BP.f_is_operation, BP.f_is_action_of, BP.f_check_action, BP.f_applied, BP.f_after, BP.f_states_of, BP.f_all_states, BP.f_first_unlike, BP.f_repeat_state, BP.f_exchange_state, BP.f_back_state, BP.f_loses_nothing, BP.f_is_reversible]
abbrev n_operations_of : List Str := ["items", "found", "item", "other", "value"]
abbrev p_operations_of : List Str := ["items"]
abbrev c_operations_of : CF := ⟨1, 5,
    (.cons (.own 1 (.lst .nil))
    (.cons (.for (.v 2) (.rng (.var 0))
    (.cons (.ext 1 (.bin .add (.lc [4] (.v 4) (.rng (.cst (PyData.int 3))) (.tup (.cons (.cst (PyData.str ("set" : Str))) (.cons (.var 2) (.cons (.var 4) .nil))))) (.lst (.cons (.tup (.cons (.cst (PyData.str ("add" : Str))) (.cons (.var 2) (.cons (.cst (PyData.int 1)) .nil)))) (.cons (.tup (.cons (.cst (PyData.str ("add" : Str))) (.cons (.var 2) (.cons (.cst (PyData.int 2)) .nil)))) .nil)))))
    (.cons (.ext 1 (.lcIf [3] (.v 3) (.rng (.var 0)) (.cmp .ne (.var 3) (.var 2)) (.tup (.cons (.cst (PyData.str ("copy" : Str))) (.cons (.var 2) (.cons (.var 3) .nil))))))
    .nil)))
    (.cons (.ret (.p1 .sorted (.var 1)))
    .nil)))⟩
@[irreducible] def f_operations_of (scr : List Int) : Fun := runF (callD fs16 scr) 100000 c_operations_of
theorem u_operations_of : f_operations_of = fun scr => runF (callD fs16 scr) 100000 c_operations_of := by
  unfold f_operations_of
  rfl
abbrev fs17 : List (List Int → Fun) := [BP.f_is_between, BP.f_check_items, BP.f_is_state_of, BP.f_is_operation, BP.f_is_action_of, BP.f_check_action, BP.f_applied, BP.f_after, BP.f_states_of, BP.f_all_states, BP.f_first_unlike, BP.f_repeat_state, BP.f_exchange_state, BP.f_back_state, BP.f_loses_nothing, BP.f_is_reversible, BP.f_operations_of]
abbrev n_way_back : List Str := ["items", "action", "rows", "turn", "back", "longer", "operation"]
abbrev p_way_back : List Str := ["items", "action"]
abbrev c_way_back : CF := ⟨2, 7,
    (.cons (.exp (.call 1 (.cons (.var 0) .nil)))
    (.cons (.exp (.call 5 (.cons (.var 0) (.cons (.var 1) .nil))))
    (.cons (.iff (.not (.call 14 (.cons (.var 0) (.cons (.var 1) .nil))))
    (.cons (.ret (.cst PyData.none))
    .nil)
    .nil)
    (.cons (.asg (.v 2) (.lst (.cons (.tup .nil) .nil)))
    (.cons (.for (.v 3) (.rng (.cst (PyData.int 3)))
    (.cons (.for (.v 4) (.seq (.var 2))
    (.cons (.iff (.isN (.call 10 (.cons (.var 0) (.cons (.bin .add (.var 1) (.var 4)) (.cons (.tup .nil) .nil)))))
    (.cons (.ret (.var 4))
    .nil)
    .nil)
    .nil))
    (.cons (.own 5 (.lst .nil))
    (.cons (.for (.v 4) (.seq (.var 2))
    (.cons (.ext 5 (.lc [6] (.v 6) (.seq (.call 16 (.cons (.var 0) .nil))) (.bin .add (.var 4) (.tup (.cons (.var 6) .nil)))))
    .nil))
    (.cons (.frz [5])
    (.cons (.asg (.v 2) (.ite (.cmp .lt (.var 3) (.cst (PyData.int 2))) (.var 5) (.lst .nil)))
    .nil))))))
    (.cons (.ret (.cst PyData.none))
    .nil))))))⟩
@[irreducible] def f_way_back (scr : List Int) : Fun := runF (callD fs17 scr) 100000 c_way_back
theorem u_way_back : f_way_back = fun scr => runF (callD fs17 scr) 100000 c_way_back := by
  unfold f_way_back
  rfl
theorem cd_17_1 (scr : List Int) : callD fs17 scr 1 = BP.f_check_items scr := rfl
theorem cd_17_5 (scr : List Int) : callD fs17 scr 5 = BP.f_check_action scr := rfl
theorem cd_17_10 (scr : List Int) : callD fs17 scr 10 = BP.f_first_unlike scr := rfl
theorem cd_17_14 (scr : List Int) : callD fs17 scr 14 = BP.f_loses_nothing scr := rfl
theorem cd_17_16 (scr : List Int) : callD fs17 scr 16 = BP.f_operations_of scr := rfl
abbrev fs18 : List (List Int → Fun) := [BP.f_is_between, BP.f_check_items, BP.f_is_state_of, BP.f_is_operation, BP.f_is_action_of, BP.f_check_action, BP.f_applied, BP.f_after, BP.f_states_of, BP.f_all_states, BP.f_first_unlike, BP.f_repeat_state, BP.f_exchange_state, BP.f_back_state, BP.f_loses_nothing, BP.f_is_reversible, BP.f_operations_of, BP.f_way_back]
abbrev n_is_ascending : List Str := ["values", "one", "other"]
abbrev p_is_ascending : List Str := ["values"]
abbrev c_is_ascending : CF := ⟨1, 3,
    (.cons (.ret (.p1 .all (.lc [1, 2] (.t [(.v 1), (.v 2)]) (.zip (.var 0) (.slL (.var 0) (.cst (PyData.int 1)))) (.cmp .lt (.var 1) (.var 2)))))
    .nil)⟩
@[irreducible] def f_is_ascending (scr : List Int) : Fun := runF (callD fs18 scr) 100000 c_is_ascending
theorem u_is_ascending : f_is_ascending = fun scr => runF (callD fs18 scr) 100000 c_is_ascending := by
  unfold f_is_ascending
  rfl
abbrev fs19 : List (List Int → Fun) := [BP.f_is_between, BP.f_check_items, BP.f_is_state_of, BP.f_is_operation, BP.f_is_action_of, BP.f_check_action, BP.f_applied, BP.f_after, BP.f_states_of, BP.f_all_states, BP.f_first_unlike, BP.f_repeat_state, BP.f_exchange_state, BP.f_back_state, BP.f_loses_nothing, BP.f_is_reversible, BP.f_operations_of, BP.f_way_back, BP.f_is_ascending]
abbrev n_is_step : List Str := ["items", "value"]
abbrev p_is_step : List Str := ["items", "value"]
abbrev c_is_step : CF := ⟨2, 2,
    (.cons (.iff (.or (.cons (.not (.isi (.var 1) .tuple)) (.cons (.cmp .ne (.p1 .len (.var 1)) (.cst (PyData.int 3))) (.cons (.not (.isi (.idx (.var 1) (.cst (PyData.int 2))) .bool)) .nil))))
    (.cons (.ret (.cst (PyData.bool false)))
    .nil)
    .nil)
    (.cons (.ret (.and (.cons (.call 4 (.cons (.var 0) (.cons (.idx (.var 1) (.cst (PyData.int 0))) .nil))) (.cons (.or (.cons (.isN (.idx (.var 1) (.cst (PyData.int 1)))) (.cons (.call 4 (.cons (.var 0) (.cons (.idx (.var 1) (.cst (PyData.int 1))) .nil))) .nil))) .nil))))
    .nil))⟩
@[irreducible] def f_is_step (scr : List Int) : Fun := runF (callD fs19 scr) 100000 c_is_step
theorem u_is_step : f_is_step = fun scr => runF (callD fs19 scr) 100000 c_is_step := by
  unfold f_is_step
  rfl
theorem cd_19_4 (scr : List Int) : callD fs19 scr 4 = BP.f_is_action_of scr := rfl
abbrev fs20 : List (List Int → Fun) := [BP.f_is_between, BP.f_check_items, BP.f_is_state_of, BP.f_is_operation, BP.f_is_action_of, BP.f_check_action, BP.f_applied, BP.f_after, BP.f_states_of, BP.f_all_states, BP.f_first_unlike, BP.f_repeat_state, BP.f_exchange_state, BP.f_back_state, BP.f_loses_nothing, BP.f_is_reversible, BP.f_operations_of, BP.f_way_back, BP.f_is_ascending, BP.f_is_step]
abbrev n_is_plan : List Str := ["value", "items", "steps", "rule", "one"]
abbrev p_is_plan : List Str := ["value"]
abbrev c_is_plan : CF := ⟨1, 5,
    (.cons (.iff (.or (.cons (.not (.isi (.var 0) .tuple)) (.cons (.cmp .ne (.p1 .len (.var 0)) (.cst (PyData.int 3))) (.cons (.not (.call 0 (.cons (.idx (.var 0) (.cst (PyData.int 0))) (.cons (.cst (PyData.int 1)) (.cons (.cst (PyData.int 3)) .nil))))) .nil))))
    (.cons (.ret (.cst (PyData.bool false)))
    .nil)
    .nil)
    (.cons (.asg (.t [(.v 1), (.v 2), (.v 3)]) (.var 0))
    (.cons (.iff (.or (.cons (.not (.isi (.var 2) .tuple)) (.cons (.not (.chn (.cst (PyData.int 1)) (.p1 .len (.var 2)) (.cst (PyData.int 4)))) (.cons (.not (.p1 .all (.lc [4] (.v 4) (.seq (.var 2)) (.call 19 (.cons (.var 1) (.cons (.var 4) .nil)))))) .nil))))
    (.cons (.ret (.cst (PyData.bool false)))
    .nil)
    .nil)
    (.cons (.ret (.and (.cons (.isi (.var 3) .str) (.cons (.cmp .isin (.var 3) (.tup (.cons (.cst (PyData.str ("again" : Str))) (.cons (.cst (PyData.str ("back" : Str))) .nil)))) .nil))))
    .nil))))⟩
@[irreducible] def f_is_plan (scr : List Int) : Fun := runF (callD fs20 scr) 100000 c_is_plan
theorem u_is_plan : f_is_plan = fun scr => runF (callD fs20 scr) 100000 c_is_plan := by
  unfold f_is_plan
  rfl
theorem cd_20_0 (scr : List Int) : callD fs20 scr 0 = BP.f_is_between scr := rfl
theorem cd_20_19 (scr : List Int) : callD fs20 scr 19 = BP.f_is_step scr := rfl
abbrev fs21 : List (List Int → Fun) := [BP.f_is_between, BP.f_check_items, BP.f_is_state_of, BP.f_is_operation, BP.f_is_action_of, BP.f_check_action, BP.f_applied, BP.f_after, BP.f_states_of, BP.f_all_states, BP.f_first_unlike, BP.f_repeat_state, BP.f_exchange_state, BP.f_back_state, BP.f_loses_nothing, BP.f_is_reversible, BP.f_operations_of, BP.f_way_back, BP.f_is_ascending, BP.f_is_step, BP.f_is_plan]
abbrev n_check_plan : List Str := ["plan"]
abbrev p_check_plan : List Str := ["plan"]
abbrev c_check_plan : CF := ⟨1, 1,
    (.cons (.iff (.not (.call 20 (.cons (.var 0) .nil)))
    (.cons (.rai 3)
    .nil)
    .nil)
    .nil)⟩
@[irreducible] def f_check_plan (scr : List Int) : Fun := runF (callD fs21 scr) 100000 c_check_plan
theorem u_check_plan : f_check_plan = fun scr => runF (callD fs21 scr) 100000 c_check_plan := by
  unfold f_check_plan
  rfl
theorem cd_21_20 (scr : List Int) : callD fs21 scr 20 = BP.f_is_plan scr := rfl
abbrev fs22 : List (List Int → Fun) := [BP.f_is_between, BP.f_check_items, BP.f_is_state_of, BP.f_is_operation, BP.f_is_action_of, BP.f_check_action, BP.f_applied, BP.f_after, BP.f_states_of, BP.f_all_states, BP.f_first_unlike, BP.f_repeat_state, BP.f_exchange_state, BP.f_back_state, BP.f_loses_nothing, BP.f_is_reversible, BP.f_operations_of, BP.f_way_back, BP.f_is_ascending, BP.f_is_step, BP.f_is_plan, BP.f_check_plan]
abbrev n_calls_of : List Str := ["plan", "some", "at", "step"]
abbrev p_calls_of : List Str := ["plan"]
abbrev c_calls_of : CF := ⟨1, 4,
    (.cons (.asg (.v 1) (.lenum (.idx (.var 0) (.cst (PyData.int 1)))))
    (.cons (.ret (.p1 .tuple (.bin .add (.lcIf [2, 3] (.t [(.v 2), (.v 3)]) (.seq (.var 1)) (.notN (.idx (.var 3) (.cst (PyData.int 1)))) (.tup (.cons (.cst (PyData.str ("back" : Str))) (.cons (.var 2) .nil)))) (.lc [2, 3] (.t [(.v 2), (.v 3)]) (.seq (.var 1)) (.tup (.cons (.cst (PyData.str ("do" : Str))) (.cons (.var 2) .nil)))))))
    .nil))⟩
@[irreducible] def f_calls_of (scr : List Int) : Fun := runF (callD fs22 scr) 100000 c_calls_of
theorem u_calls_of : f_calls_of = fun scr => runF (callD fs22 scr) 100000 c_calls_of := by
  unfold f_calls_of
  rfl
abbrev fs23 : List (List Int → Fun) := [BP.f_is_between, BP.f_check_items, BP.f_is_state_of, BP.f_is_operation, BP.f_is_action_of, BP.f_check_action, BP.f_applied, BP.f_after, BP.f_states_of, BP.f_all_states, BP.f_first_unlike, BP.f_repeat_state, BP.f_exchange_state, BP.f_back_state, BP.f_loses_nothing, BP.f_is_reversible, BP.f_operations_of, BP.f_way_back, BP.f_is_ascending, BP.f_is_step, BP.f_is_plan, BP.f_check_plan, BP.f_calls_of]
abbrev n_is_call : List Str := ["plan", "value"]
abbrev p_is_call : List Str := ["plan", "value"]
abbrev c_is_call : CF := ⟨2, 2,
    (.cons (.iff (.or (.cons (.not (.isi (.var 1) .tuple)) (.cons (.cmp .ne (.p1 .len (.var 1)) (.cst (PyData.int 2))) (.cons (.not (.isi (.idx (.var 1) (.cst (PyData.int 0))) .str)) .nil))))
    (.cons (.ret (.cst (PyData.bool false)))
    .nil)
    .nil)
    (.cons (.ret (.and (.cons (.call 0 (.cons (.idx (.var 1) (.cst (PyData.int 1))) (.cons (.cst (PyData.int 0)) (.cons (.cst (PyData.int 3)) .nil)))) (.cons (.cmp .isin (.var 1) (.call 22 (.cons (.var 0) .nil))) .nil))))
    .nil))⟩
@[irreducible] def f_is_call (scr : List Int) : Fun := runF (callD fs23 scr) 100000 c_is_call
theorem u_is_call : f_is_call = fun scr => runF (callD fs23 scr) 100000 c_is_call := by
  unfold f_is_call
  rfl
theorem cd_23_0 (scr : List Int) : callD fs23 scr 0 = BP.f_is_between scr := rfl
theorem cd_23_22 (scr : List Int) : callD fs23 scr 22 = BP.f_calls_of scr := rfl
abbrev fs24 : List (List Int → Fun) := [BP.f_is_between, BP.f_check_items, BP.f_is_state_of, BP.f_is_operation, BP.f_is_action_of, BP.f_check_action, BP.f_applied, BP.f_after, BP.f_states_of, BP.f_all_states, BP.f_first_unlike, BP.f_repeat_state, BP.f_exchange_state, BP.f_back_state, BP.f_loses_nothing, BP.f_is_reversible, BP.f_operations_of, BP.f_way_back, BP.f_is_ascending, BP.f_is_step, BP.f_is_plan, BP.f_check_plan, BP.f_calls_of, BP.f_is_call]
abbrev n_check_guards : List Str := ["plan", "guards", "one"]
abbrev p_check_guards : List Str := ["plan", "guards"]
abbrev c_check_guards : CF := ⟨2, 3,
    (.cons (.exp (.call 21 (.cons (.var 0) .nil)))
    (.cons (.iff (.or (.cons (.not (.isi (.var 1) .tuple)) (.cons (.not (.p1 .all (.lc [2] (.v 2) (.seq (.var 1)) (.call 23 (.cons (.var 0) (.cons (.var 2) .nil)))))) (.cons (.not (.call 18 (.cons (.var 1) .nil))) .nil))))
    (.cons (.rai 4)
    .nil)
    .nil)
    .nil))⟩
@[irreducible] def f_check_guards (scr : List Int) : Fun := runF (callD fs24 scr) 100000 c_check_guards
theorem u_check_guards : f_check_guards = fun scr => runF (callD fs24 scr) 100000 c_check_guards := by
  unfold f_check_guards
  rfl
theorem cd_24_18 (scr : List Int) : callD fs24 scr 18 = BP.f_is_ascending scr := rfl
theorem cd_24_21 (scr : List Int) : callD fs24 scr 21 = BP.f_check_plan scr := rfl
theorem cd_24_23 (scr : List Int) : callD fs24 scr 23 = BP.f_is_call scr := rfl
abbrev fs25 : List (List Int → Fun) := [BP.f_is_between, BP.f_check_items, BP.f_is_state_of, BP.f_is_operation, BP.f_is_action_of, BP.f_check_action, BP.f_applied, BP.f_after, BP.f_states_of, BP.f_all_states, BP.f_first_unlike, BP.f_repeat_state, BP.f_exchange_state, BP.f_back_state, BP.f_loses_nothing, BP.f_is_reversible, BP.f_operations_of, BP.f_way_back, BP.f_is_ascending, BP.f_is_step, BP.f_is_plan, BP.f_check_plan, BP.f_calls_of, BP.f_is_call, BP.f_check_guards]
abbrev n_check_start : List Str := ["plan", "start"]
abbrev p_check_start : List Str := ["plan", "start"]
abbrev c_check_start : CF := ⟨2, 2,
    (.cons (.iff (.not (.call 2 (.cons (.idx (.var 0) (.cst (PyData.int 0))) (.cons (.var 1) .nil))))
    (.cons (.rai 5)
    .nil)
    .nil)
    .nil)⟩
@[irreducible] def f_check_start (scr : List Int) : Fun := runF (callD fs25 scr) 100000 c_check_start
theorem u_check_start : f_check_start = fun scr => runF (callD fs25 scr) 100000 c_check_start := by
  unfold f_check_start
  rfl
theorem cd_25_2 (scr : List Int) : callD fs25 scr 2 = BP.f_is_state_of scr := rfl
abbrev fs26 : List (List Int → Fun) := [BP.f_is_between, BP.f_check_items, BP.f_is_state_of, BP.f_is_operation, BP.f_is_action_of, BP.f_check_action, BP.f_applied, BP.f_after, BP.f_states_of, BP.f_all_states, BP.f_first_unlike, BP.f_repeat_state, BP.f_exchange_state, BP.f_back_state, BP.f_loses_nothing, BP.f_is_reversible, BP.f_operations_of, BP.f_way_back, BP.f_is_ascending, BP.f_is_step, BP.f_is_plan, BP.f_check_plan, BP.f_calls_of, BP.f_is_call, BP.f_check_guards, BP.f_check_start]
abbrev n_all_guards : List Str := ["plan"]
abbrev p_all_guards : List Str := ["plan"]
abbrev c_all_guards : CF := ⟨1, 1,
    (.cons (.exp (.call 21 (.cons (.var 0) .nil)))
    (.cons (.ret (.call 22 (.cons (.var 0) .nil)))
    .nil))⟩
@[irreducible] def f_all_guards (scr : List Int) : Fun := runF (callD fs26 scr) 100000 c_all_guards
theorem u_all_guards : f_all_guards = fun scr => runF (callD fs26 scr) 100000 c_all_guards := by
  unfold f_all_guards
  rfl
theorem cd_26_21 (scr : List Int) : callD fs26 scr 21 = BP.f_check_plan scr := rfl
theorem cd_26_22 (scr : List Int) : callD fs26 scr 22 = BP.f_calls_of scr := rfl
abbrev fs27 : List (List Int → Fun) := [BP.f_is_between, BP.f_check_items, BP.f_is_state_of, BP.f_is_operation, BP.f_is_action_of, BP.f_check_action, BP.f_applied, BP.f_after, BP.f_states_of, BP.f_all_states, BP.f_first_unlike, BP.f_repeat_state, BP.f_exchange_state, BP.f_back_state, BP.f_loses_nothing, BP.f_is_reversible, BP.f_operations_of, BP.f_way_back, BP.f_is_ascending, BP.f_is_step, BP.f_is_plan, BP.f_check_plan, BP.f_calls_of, BP.f_is_call, BP.f_check_guards, BP.f_check_start, BP.f_all_guards]
abbrev n_goal_of : List Str := ["plan", "start", "state", "step"]
abbrev p_goal_of : List Str := ["plan", "start"]
abbrev c_goal_of : CF := ⟨2, 4,
    (.cons (.asg (.v 2) (.var 1))
    (.cons (.for (.v 3) (.seq (.idx (.var 0) (.cst (PyData.int 1))))
    (.cons (.asg (.v 2) (.call 6 (.cons (.idx (.var 3) (.cst (PyData.int 0))) (.cons (.var 2) .nil))))
    .nil))
    (.cons (.ret (.var 2))
    .nil)))⟩
@[irreducible] def f_goal_of (scr : List Int) : Fun := runF (callD fs27 scr) 100000 c_goal_of
theorem u_goal_of : f_goal_of = fun scr => runF (callD fs27 scr) 100000 c_goal_of := by
  unfold f_goal_of
  rfl
theorem cd_27_6 (scr : List Int) : callD fs27 scr 6 = BP.f_applied scr := rfl
abbrev fs28 : List (List Int → Fun) := [BP.f_is_between, BP.f_check_items, BP.f_is_state_of, BP.f_is_operation, BP.f_is_action_of, BP.f_check_action, BP.f_applied, BP.f_after, BP.f_states_of, BP.f_all_states, BP.f_first_unlike, BP.f_repeat_state, BP.f_exchange_state, BP.f_back_state, BP.f_loses_nothing, BP.f_is_reversible, BP.f_operations_of, BP.f_way_back, BP.f_is_ascending, BP.f_is_step, BP.f_is_plan, BP.f_check_plan, BP.f_calls_of, BP.f_is_call, BP.f_check_guards, BP.f_check_start, BP.f_all_guards, BP.f_goal_of]
abbrev n_goal : List Str := ["plan", "start"]
abbrev p_goal : List Str := ["plan", "start"]
abbrev c_goal : CF := ⟨2, 2,
    (.cons (.exp (.call 21 (.cons (.var 0) .nil)))
    (.cons (.exp (.call 25 (.cons (.var 0) (.cons (.var 1) .nil))))
    (.cons (.ret (.call 27 (.cons (.var 0) (.cons (.var 1) .nil))))
    .nil)))⟩
@[irreducible] def f_goal (scr : List Int) : Fun := runF (callD fs28 scr) 100000 c_goal
theorem u_goal : f_goal = fun scr => runF (callD fs28 scr) 100000 c_goal := by
  unfold f_goal
  rfl
theorem cd_28_21 (scr : List Int) : callD fs28 scr 21 = BP.f_check_plan scr := rfl
theorem cd_28_25 (scr : List Int) : callD fs28 scr 25 = BP.f_check_start scr := rfl
theorem cd_28_27 (scr : List Int) : callD fs28 scr 27 = BP.f_goal_of scr := rfl
abbrev fs29 : List (List Int → Fun) := [BP.f_is_between, BP.f_check_items, BP.f_is_state_of, BP.f_is_operation, BP.f_is_action_of, BP.f_check_action, BP.f_applied, BP.f_after, BP.f_states_of, BP.f_all_states, BP.f_first_unlike, BP.f_repeat_state, BP.f_exchange_state, BP.f_back_state, BP.f_loses_nothing, BP.f_is_reversible, BP.f_operations_of, BP.f_way_back, BP.f_is_ascending, BP.f_is_step, BP.f_is_plan, BP.f_check_plan, BP.f_calls_of, BP.f_is_call, BP.f_check_guards, BP.f_check_start, BP.f_all_guards, BP.f_goal_of, BP.f_goal]
abbrev n_outcomes_of : List Str := ["plan", "guards", "call", "made", "kind", "at"]
abbrev p_outcomes_of : List Str := ["plan", "guards", "call", "made"]
abbrev c_outcomes_of : CF := ⟨4, 6,
    (.cons (.asg (.t [(.v 4), (.v 5)]) (.var 2))
    (.cons (.iff (.or (.cons (.cmp .eq (.var 4) (.cst (PyData.str ("back" : Str)))) (.cons (.not (.idx (.idx (.idx (.var 0) (.cst (PyData.int 1))) (.var 5)) (.cst (PyData.int 2)))) (.cons (.and (.cons (.cmp .isin (.var 2) (.var 1)) (.cons (.cmp .isin (.var 2) (.var 3)) .nil))) .nil))))
    (.cons (.ret (.lst (.cons (.cst (PyData.str ("lost" : Str))) (.cons (.cst (PyData.str ("missed" : Str))) (.cons (.cst (PyData.str ("ok" : Str))) .nil)))))
    .nil)
    .nil)
    (.cons (.ret (.lst (.cons (.cst (PyData.str ("lost" : Str))) (.cons (.cst (PyData.str ("missed" : Str))) (.cons (.cst (PyData.str ("ok" : Str))) (.cons (.cst (PyData.str ("refused" : Str))) .nil))))))
    .nil)))⟩
@[irreducible] def f_outcomes_of (scr : List Int) : Fun := runF (callD fs29 scr) 100000 c_outcomes_of
theorem u_outcomes_of : f_outcomes_of = fun scr => runF (callD fs29 scr) 100000 c_outcomes_of := by
  unfold f_outcomes_of
  rfl
abbrev fs30 : List (List Int → Fun) := [BP.f_is_between, BP.f_check_items, BP.f_is_state_of, BP.f_is_operation, BP.f_is_action_of, BP.f_check_action, BP.f_applied, BP.f_after, BP.f_states_of, BP.f_all_states, BP.f_first_unlike, BP.f_repeat_state, BP.f_exchange_state, BP.f_back_state, BP.f_loses_nothing, BP.f_is_reversible, BP.f_operations_of, BP.f_way_back, BP.f_is_ascending, BP.f_is_step, BP.f_is_plan, BP.f_check_plan, BP.f_calls_of, BP.f_is_call, BP.f_check_guards, BP.f_check_start, BP.f_all_guards, BP.f_goal_of, BP.f_goal, BP.f_outcomes_of]
abbrev n_taking_back : List Str := ["plan", "at"]
abbrev p_taking_back : List Str := ["plan", "at"]
abbrev c_taking_back : CF := ⟨2, 2,
    (.cons (.iff (.cmp .lt (.var 1) (.cst (PyData.int 0)))
    (.cons (.ret (.cst (PyData.str ("undone" : Str))))
    .nil)
    .nil)
    (.cons (.ret (.ite (.notN (.idx (.idx (.idx (.var 0) (.cst (PyData.int 1))) (.var 1)) (.cst (PyData.int 1)))) (.tup (.cons (.cst (PyData.str ("back" : Str))) (.cons (.var 1) .nil))) (.cst (PyData.str ("stuck" : Str)))))
    .nil))⟩
@[irreducible] def f_taking_back (scr : List Int) : Fun := runF (callD fs30 scr) 100000 c_taking_back
theorem u_taking_back : f_taking_back = fun scr => runF (callD fs30 scr) 100000 c_taking_back := by
  unfold f_taking_back
  rfl
abbrev fs31 : List (List Int → Fun) := [BP.f_is_between, BP.f_check_items, BP.f_is_state_of, BP.f_is_operation, BP.f_is_action_of, BP.f_check_action, BP.f_applied, BP.f_after, BP.f_states_of, BP.f_all_states, BP.f_first_unlike, BP.f_repeat_state, BP.f_exchange_state, BP.f_back_state, BP.f_loses_nothing, BP.f_is_reversible, BP.f_operations_of, BP.f_way_back, BP.f_is_ascending, BP.f_is_step, BP.f_is_plan, BP.f_check_plan, BP.f_calls_of, BP.f_is_call, BP.f_check_guards, BP.f_check_start, BP.f_all_guards, BP.f_goal_of, BP.f_goal, BP.f_outcomes_of, BP.f_taking_back]
abbrev n_next_of : List Str := ["plan", "call", "outcome", "kind", "at"]
abbrev p_next_of : List Str := ["plan", "call", "outcome"]
abbrev c_next_of : CF := ⟨3, 5,
    (.cons (.asg (.t [(.v 3), (.v 4)]) (.var 1))
    (.cons (.iff (.cmp .eq (.var 3) (.cst (PyData.str ("back" : Str))))
    (.cons (.ret (.ite (.cmp .eq (.var 2) (.cst (PyData.str ("ok" : Str)))) (.call 30 (.cons (.var 0) (.cons (.bin .sub (.var 4) (.cst (PyData.int 1))) .nil))) (.var 1)))
    .nil)
    .nil)
    (.cons (.iff (.cmp .eq (.var 2) (.cst (PyData.str ("ok" : Str))))
    (.cons (.ret (.ite (.cmp .lt (.bin .add (.var 4) (.cst (PyData.int 1))) (.p1 .len (.idx (.var 0) (.cst (PyData.int 1))))) (.tup (.cons (.cst (PyData.str ("do" : Str))) (.cons (.bin .add (.var 4) (.cst (PyData.int 1))) .nil))) (.cst (PyData.str ("done" : Str)))))
    .nil)
    .nil)
    (.cons (.iff (.cmp .eq (.var 2) (.cst (PyData.str ("refused" : Str))))
    (.cons (.ret (.call 30 (.cons (.var 0) (.cons (.bin .sub (.var 4) (.cst (PyData.int 1))) .nil))))
    .nil)
    .nil)
    (.cons (.ret (.ite (.cmp .eq (.idx (.var 0) (.cst (PyData.int 2))) (.cst (PyData.str ("again" : Str)))) (.var 1) (.call 30 (.cons (.var 0) (.cons (.var 4) .nil)))))
    .nil)))))⟩
@[irreducible] def f_next_of (scr : List Int) : Fun := runF (callD fs31 scr) 100000 c_next_of
theorem u_next_of : f_next_of = fun scr => runF (callD fs31 scr) 100000 c_next_of := by
  unfold f_next_of
  rfl
theorem cd_31_30 (scr : List Int) : callD fs31 scr 30 = BP.f_taking_back scr := rfl
abbrev fs32 : List (List Int → Fun) := [BP.f_is_between, BP.f_check_items, BP.f_is_state_of, BP.f_is_operation, BP.f_is_action_of, BP.f_check_action, BP.f_applied, BP.f_after, BP.f_states_of, BP.f_all_states, BP.f_first_unlike, BP.f_repeat_state, BP.f_exchange_state, BP.f_back_state, BP.f_loses_nothing, BP.f_is_reversible, BP.f_operations_of, BP.f_way_back, BP.f_is_ascending, BP.f_is_step, BP.f_is_plan, BP.f_check_plan, BP.f_calls_of, BP.f_is_call, BP.f_check_guards, BP.f_check_start, BP.f_all_guards, BP.f_goal_of, BP.f_goal, BP.f_outcomes_of, BP.f_taking_back, BP.f_next_of]
abbrev n_has_effect : List Str := ["guards", "call", "made"]
abbrev p_has_effect : List Str := ["guards", "call", "made"]
abbrev c_has_effect : CF := ⟨3, 3,
    (.cons (.iff (.cmp .notin (.var 1) (.var 0))
    (.cons (.ret (.cst (PyData.bool true)))
    .nil)
    .nil)
    (.cons (.ret (.and (.cons (.cmp .notin (.var 1) (.var 2)) (.cons (.or (.cons (.cmp .eq (.idx (.var 1) (.cst (PyData.int 0))) (.cst (PyData.str ("do" : Str)))) (.cons (.cmp .isin (.tup (.cons (.cst (PyData.str ("do" : Str))) (.cons (.idx (.var 1) (.cst (PyData.int 1))) .nil))) (.var 2)) .nil))) .nil))))
    .nil))⟩
@[irreducible] def f_has_effect (scr : List Int) : Fun := runF (callD fs32 scr) 100000 c_has_effect
theorem u_has_effect : f_has_effect = fun scr => runF (callD fs32 scr) 100000 c_has_effect := by
  unfold f_has_effect
  rfl
abbrev fs33 : List (List Int → Fun) := [BP.f_is_between, BP.f_check_items, BP.f_is_state_of, BP.f_is_operation, BP.f_is_action_of, BP.f_check_action, BP.f_applied, BP.f_after, BP.f_states_of, BP.f_all_states, BP.f_first_unlike, BP.f_repeat_state, BP.f_exchange_state, BP.f_back_state, BP.f_loses_nothing, BP.f_is_reversible, BP.f_operations_of, BP.f_way_back, BP.f_is_ascending, BP.f_is_step, BP.f_is_plan, BP.f_check_plan, BP.f_calls_of, BP.f_is_call, BP.f_check_guards, BP.f_check_start, BP.f_all_guards, BP.f_goal_of, BP.f_goal, BP.f_outcomes_of, BP.f_taking_back, BP.f_next_of, BP.f_has_effect]
abbrev n_called : List Str := ["plan", "guards", "call", "made", "state", "step"]
abbrev p_called : List Str := ["plan", "guards", "call", "made", "state"]
abbrev c_called : CF := ⟨5, 6,
    (.cons (.iff (.call 32 (.cons (.var 1) (.cons (.var 2) (.cons (.var 3) .nil))))
    (.cons (.asg (.v 5) (.idx (.idx (.var 0) (.cst (PyData.int 1))) (.idx (.var 2) (.cst (PyData.int 1)))))
    (.cons (.asg (.v 4) (.call 6 (.cons (.ite (.cmp .eq (.idx (.var 2) (.cst (PyData.int 0))) (.cst (PyData.str ("do" : Str)))) (.idx (.var 5) (.cst (PyData.int 0))) (.idx (.var 5) (.cst (PyData.int 1)))) (.cons (.var 4) .nil))))
    (.cons (.asg (.v 3) (.p1 .tuple (.ssort (.bin .add (.var 3) (.tup (.cons (.var 2) .nil))))))
    .nil)))
    (.cons (.iff (.cmp .eq (.idx (.var 2) (.cst (PyData.int 0))) (.cst (PyData.str ("do" : Str))))
    (.cons (.asg (.v 3) (.p1 .tuple (.ssort (.bin .add (.var 3) (.tup (.cons (.var 2) .nil))))))
    .nil)
    .nil)
    .nil))
    (.cons (.ret (.tup (.cons (.var 3) (.cons (.var 4) .nil))))
    .nil))⟩
@[irreducible] def f_called (scr : List Int) : Fun := runF (callD fs33 scr) 100000 c_called
theorem u_called : f_called = fun scr => runF (callD fs33 scr) 100000 c_called := by
  unfold f_called
  rfl
theorem cd_33_6 (scr : List Int) : callD fs33 scr 6 = BP.f_applied scr := rfl
theorem cd_33_32 (scr : List Int) : callD fs33 scr 32 = BP.f_has_effect scr := rfl
abbrev fs34 : List (List Int → Fun) := [BP.f_is_between, BP.f_check_items, BP.f_is_state_of, BP.f_is_operation, BP.f_is_action_of, BP.f_check_action, BP.f_applied, BP.f_after, BP.f_states_of, BP.f_all_states, BP.f_first_unlike, BP.f_repeat_state, BP.f_exchange_state, BP.f_back_state, BP.f_loses_nothing, BP.f_is_reversible, BP.f_operations_of, BP.f_way_back, BP.f_is_ascending, BP.f_is_step, BP.f_is_plan, BP.f_check_plan, BP.f_calls_of, BP.f_is_call, BP.f_check_guards, BP.f_check_start, BP.f_all_guards, BP.f_goal_of, BP.f_goal, BP.f_outcomes_of, BP.f_taking_back, BP.f_next_of, BP.f_has_effect, BP.f_called]
abbrev n_moved : List Str := ["plan", "guards", "call", "made", "state", "outcome"]
abbrev p_moved : List Str := ["plan", "guards", "call", "made", "state", "outcome"]
abbrev c_moved : CF := ⟨6, 6,
    (.cons (.iff (.cmp .isin (.var 5) (.tup (.cons (.cst (PyData.str ("ok" : Str))) (.cons (.cst (PyData.str ("lost" : Str))) .nil))))
    (.cons (.asg (.t [(.v 3), (.v 4)]) (.call 33 (.cons (.var 0) (.cons (.var 1) (.cons (.var 2) (.cons (.var 3) (.cons (.var 4) .nil)))))))
    .nil)
    .nil)
    (.cons (.ret (.tup (.cons (.call 31 (.cons (.var 0) (.cons (.var 2) (.cons (.var 5) .nil)))) (.cons (.var 3) (.cons (.var 4) .nil)))))
    .nil))⟩
@[irreducible] def f_moved (scr : List Int) : Fun := runF (callD fs34 scr) 100000 c_moved
theorem u_moved : f_moved = fun scr => runF (callD fs34 scr) 100000 c_moved := by
  unfold f_moved
  rfl
theorem cd_34_31 (scr : List Int) : callD fs34 scr 31 = BP.f_next_of scr := rfl
theorem cd_34_33 (scr : List Int) : callD fs34 scr 33 = BP.f_called scr := rfl
abbrev fs35 : List (List Int → Fun) := [BP.f_is_between, BP.f_check_items, BP.f_is_state_of, BP.f_is_operation, BP.f_is_action_of, BP.f_check_action, BP.f_applied, BP.f_after, BP.f_states_of, BP.f_all_states, BP.f_first_unlike, BP.f_repeat_state, BP.f_exchange_state, BP.f_back_state, BP.f_loses_nothing, BP.f_is_reversible, BP.f_operations_of, BP.f_way_back, BP.f_is_ascending, BP.f_is_step, BP.f_is_plan, BP.f_check_plan, BP.f_calls_of, BP.f_is_call, BP.f_check_guards, BP.f_check_start, BP.f_all_guards, BP.f_goal_of, BP.f_goal, BP.f_outcomes_of, BP.f_taking_back, BP.f_next_of, BP.f_has_effect, BP.f_called, BP.f_moved]
abbrev n_is_good_end : List Str := ["plan", "start", "end"]
abbrev p_is_good_end : List Str := ["plan", "start", "end"]
abbrev c_is_good_end : CF := ⟨3, 3,
    (.cons (.iff (.cmp .eq (.idx (.var 2) (.cst (PyData.int 0))) (.cst (PyData.str ("done" : Str))))
    (.cons (.ret (.cmp .eq (.idx (.var 2) (.cst (PyData.int 1))) (.call 27 (.cons (.var 0) (.cons (.var 1) .nil)))))
    .nil)
    .nil)
    (.cons (.ret (.and (.cons (.cmp .eq (.idx (.var 2) (.cst (PyData.int 0))) (.cst (PyData.str ("undone" : Str)))) (.cons (.cmp .eq (.idx (.var 2) (.cst (PyData.int 1))) (.var 1)) .nil))))
    .nil))⟩
@[irreducible] def f_is_good_end (scr : List Int) : Fun := runF (callD fs35 scr) 100000 c_is_good_end
theorem u_is_good_end : f_is_good_end = fun scr => runF (callD fs35 scr) 100000 c_is_good_end := by
  unfold f_is_good_end
  rfl
theorem cd_35_27 (scr : List Int) : callD fs35 scr 27 = BP.f_goal_of scr := rfl
abbrev fs36 : List (List Int → Fun) := [BP.f_is_between, BP.f_check_items, BP.f_is_state_of, BP.f_is_operation, BP.f_is_action_of, BP.f_check_action, BP.f_applied, BP.f_after, BP.f_states_of, BP.f_all_states, BP.f_first_unlike, BP.f_repeat_state, BP.f_exchange_state, BP.f_back_state, BP.f_loses_nothing, BP.f_is_reversible, BP.f_operations_of, BP.f_way_back, BP.f_is_ascending, BP.f_is_step, BP.f_is_plan, BP.f_check_plan, BP.f_calls_of, BP.f_is_call, BP.f_check_guards, BP.f_check_start, BP.f_all_guards, BP.f_goal_of, BP.f_goal, BP.f_outcomes_of, BP.f_taking_back, BP.f_next_of, BP.f_has_effect, BP.f_called, BP.f_moved, BP.f_is_good_end]
abbrev n_found_ends : List Str := ["plan", "guards", "start", "begin", "known", "level", "found", "further", "run", "here", "made", "state", "outcome", "there", "longer", "end", "best"]
abbrev p_found_ends : List Str := ["plan", "guards", "start"]
abbrev c_found_ends : CF := ⟨3, 17,
    (.cons (.asg (.v 3) (.tup (.cons (.gcon ("FIRST" : Str) (PyData.tuple [(PyData.str ("do" : Str)), (PyData.int 0)])) (.cons (.tup .nil) (.cons (.var 2) .nil)))))
    (.cons (.par [(true, 4), (false, 5), (true, 6)] (.cons (.done (.var 3) (.cst (PyData.bool true))) (.cons (.lst (.cons (.tup (.cons (.tup .nil) (.cons (.var 3) .nil))) .nil)) (.cons .dnew .nil))))
    (.cons (.whl (.cmp .ne (.var 5) (.lst .nil))
    (.cons (.own 7 (.lst .nil))
    (.cons (.for (.t [(.v 8), (.t [(.v 9), (.v 10), (.v 11)])]) (.seq (.var 5))
    (.cons (.for (.v 12) (.seq (.call 29 (.cons (.var 0) (.cons (.var 1) (.cons (.var 9) (.cons (.var 10) .nil))))))
    (.cons (.asg (.v 13) (.call 34 (.cons (.var 0) (.cons (.var 1) (.cons (.var 9) (.cons (.var 10) (.cons (.var 11) (.cons (.var 12) .nil))))))))
    (.cons (.asg (.v 14) (.bin .add (.var 8) (.tup (.cons (.bin .add (.var 9) (.tup (.cons (.var 12) .nil))) .nil))))
    (.cons (.iff (.isi (.idx (.var 13) (.cst (PyData.int 0))) .str)
    (.cons (.asg (.v 15) (.tup (.cons (.idx (.var 13) (.cst (PyData.int 0))) (.cons (.idx (.var 13) (.cst (PyData.int 2))) .nil))))
    (.cons (.asg (.v 16) (.dget (.var 6) (.var 15) (.var 14)))
    (.cons (.sto 6 (.var 15) (.ite (.and (.cons (.cmp .eq (.p1 .len (.var 14)) (.p1 .len (.var 16))) (.cons (.cmp .lt (.var 14) (.var 16)) .nil))) (.var 14) (.var 16)))
    .nil)))
    (.cons (.iff (.cmp .notin (.var 13) (.var 4))
    (.cons (.sto 4 (.var 13) (.cst (PyData.bool true)))
    (.cons (.app 7 (.tup (.cons (.var 14) (.cons (.var 13) .nil))))
    .nil))
    .nil)
    .nil))
    .nil))))
    .nil))
    (.cons (.asg (.v 5) (.p1 .sorted (.var 7)))
    .nil))))
    (.cons (.frz [6])
    (.cons (.ret (.var 6))
    .nil)))))⟩
@[irreducible] def f_found_ends (scr : List Int) : Fun := runF (callD fs36 scr) 100000 c_found_ends
theorem u_found_ends : f_found_ends = fun scr => runF (callD fs36 scr) 100000 c_found_ends := by
  unfold f_found_ends
  rfl
theorem cd_36_29 (scr : List Int) : callD fs36 scr 29 = BP.f_outcomes_of scr := rfl
theorem cd_36_34 (scr : List Int) : callD fs36 scr 34 = BP.f_moved scr := rfl
abbrev fs37 : List (List Int → Fun) := [BP.f_is_between, BP.f_check_items, BP.f_is_state_of, BP.f_is_operation, BP.f_is_action_of, BP.f_check_action, BP.f_applied, BP.f_after, BP.f_states_of, BP.f_all_states, BP.f_first_unlike, BP.f_repeat_state, BP.f_exchange_state, BP.f_back_state, BP.f_loses_nothing, BP.f_is_reversible, BP.f_operations_of, BP.f_way_back, BP.f_is_ascending, BP.f_is_step, BP.f_is_plan, BP.f_check_plan, BP.f_calls_of, BP.f_is_call, BP.f_check_guards, BP.f_check_start, BP.f_all_guards, BP.f_goal_of, BP.f_goal, BP.f_outcomes_of, BP.f_taking_back, BP.f_next_of, BP.f_has_effect, BP.f_called, BP.f_moved, BP.f_is_good_end, BP.f_found_ends]
abbrev n_are_good : List Str := ["plan", "guards", "start", "end"]
abbrev p_are_good : List Str := ["plan", "guards", "start"]
abbrev c_are_good : CF := ⟨3, 4,
    (.cons (.ret (.p1 .all (.lc [3] (.v 3) (.keys (.call 36 (.cons (.var 0) (.cons (.var 1) (.cons (.var 2) .nil))))) (.call 35 (.cons (.var 0) (.cons (.var 2) (.cons (.var 3) .nil)))))))
    .nil)⟩
@[irreducible] def f_are_good (scr : List Int) : Fun := runF (callD fs37 scr) 100000 c_are_good
theorem u_are_good : f_are_good = fun scr => runF (callD fs37 scr) 100000 c_are_good := by
  unfold f_are_good
  rfl
theorem cd_37_35 (scr : List Int) : callD fs37 scr 35 = BP.f_is_good_end scr := rfl
theorem cd_37_36 (scr : List Int) : callD fs37 scr 36 = BP.f_found_ends scr := rfl
abbrev fs38 : List (List Int → Fun) := [BP.f_is_between, BP.f_check_items, BP.f_is_state_of, BP.f_is_operation, BP.f_is_action_of, BP.f_check_action, BP.f_applied, BP.f_after, BP.f_states_of, BP.f_all_states, BP.f_first_unlike, BP.f_repeat_state, BP.f_exchange_state, BP.f_back_state, BP.f_loses_nothing, BP.f_is_reversible, BP.f_operations_of, BP.f_way_back, BP.f_is_ascending, BP.f_is_step, BP.f_is_plan, BP.f_check_plan, BP.f_calls_of, BP.f_is_call, BP.f_check_guards, BP.f_check_start, BP.f_all_guards, BP.f_goal_of, BP.f_goal, BP.f_outcomes_of, BP.f_taking_back, BP.f_next_of, BP.f_has_effect, BP.f_called, BP.f_moved, BP.f_is_good_end, BP.f_found_ends, BP.f_are_good]
abbrev n_ends_clean : List Str := ["plan", "guards", "start"]
abbrev p_ends_clean : List Str := ["plan", "guards", "start"]
abbrev c_ends_clean : CF := ⟨3, 3,
    (.cons (.exp (.call 24 (.cons (.var 0) (.cons (.var 1) .nil))))
    (.cons (.exp (.call 25 (.cons (.var 0) (.cons (.var 2) .nil))))
    (.cons (.ret (.call 37 (.cons (.var 0) (.cons (.var 1) (.cons (.var 2) .nil)))))
    .nil)))⟩
@[irreducible] def f_ends_clean (scr : List Int) : Fun := runF (callD fs38 scr) 100000 c_ends_clean
theorem u_ends_clean : f_ends_clean = fun scr => runF (callD fs38 scr) 100000 c_ends_clean := by
  unfold f_ends_clean
  rfl
theorem cd_38_24 (scr : List Int) : callD fs38 scr 24 = BP.f_check_guards scr := rfl
theorem cd_38_25 (scr : List Int) : callD fs38 scr 25 = BP.f_check_start scr := rfl
theorem cd_38_37 (scr : List Int) : callD fs38 scr 37 = BP.f_are_good scr := rfl
abbrev fs39 : List (List Int → Fun) := [BP.f_is_between, BP.f_check_items, BP.f_is_state_of, BP.f_is_operation, BP.f_is_action_of, BP.f_check_action, BP.f_applied, BP.f_after, BP.f_states_of, BP.f_all_states, BP.f_first_unlike, BP.f_repeat_state, BP.f_exchange_state, BP.f_back_state, BP.f_loses_nothing, BP.f_is_reversible, BP.f_operations_of, BP.f_way_back, BP.f_is_ascending, BP.f_is_step, BP.f_is_plan, BP.f_check_plan, BP.f_calls_of, BP.f_is_call, BP.f_check_guards, BP.f_check_start, BP.f_all_guards, BP.f_goal_of, BP.f_goal, BP.f_outcomes_of, BP.f_taking_back, BP.f_next_of, BP.f_has_effect, BP.f_called, BP.f_moved, BP.f_is_good_end, BP.f_found_ends, BP.f_are_good, BP.f_ends_clean]
abbrev n_bad_starts : List Str := ["plan", "guards", "start"]
abbrev p_bad_starts : List Str := ["plan", "guards"]
abbrev c_bad_starts : CF := ⟨2, 3,
    (.cons (.exp (.call 24 (.cons (.var 0) (.cons (.var 1) .nil))))
    (.cons (.ret (.p1 .tuple (.lcIf [2] (.v 2) (.seq (.call 8 (.cons (.idx (.var 0) (.cst (PyData.int 0))) .nil))) (.not (.call 37 (.cons (.var 0) (.cons (.var 1) (.cons (.var 2) .nil))))) (.var 2))))
    .nil))⟩
@[irreducible] def f_bad_starts (scr : List Int) : Fun := runF (callD fs39 scr) 100000 c_bad_starts
theorem u_bad_starts : f_bad_starts = fun scr => runF (callD fs39 scr) 100000 c_bad_starts := by
  unfold f_bad_starts
  rfl
theorem cd_39_8 (scr : List Int) : callD fs39 scr 8 = BP.f_states_of scr := rfl
theorem cd_39_24 (scr : List Int) : callD fs39 scr 24 = BP.f_check_guards scr := rfl
theorem cd_39_37 (scr : List Int) : callD fs39 scr 37 = BP.f_are_good scr := rfl
abbrev fs40 : List (List Int → Fun) := [BP.f_is_between, BP.f_check_items, BP.f_is_state_of, BP.f_is_operation, BP.f_is_action_of, BP.f_check_action, BP.f_applied, BP.f_after, BP.f_states_of, BP.f_all_states, BP.f_first_unlike, BP.f_repeat_state, BP.f_exchange_state, BP.f_back_state, BP.f_loses_nothing, BP.f_is_reversible, BP.f_operations_of, BP.f_way_back, BP.f_is_ascending, BP.f_is_step, BP.f_is_plan, BP.f_check_plan, BP.f_calls_of, BP.f_is_call, BP.f_check_guards, BP.f_check_start, BP.f_all_guards, BP.f_goal_of, BP.f_goal, BP.f_outcomes_of, BP.f_taking_back, BP.f_next_of, BP.f_has_effect, BP.f_called, BP.f_moved, BP.f_is_good_end, BP.f_found_ends, BP.f_are_good, BP.f_ends_clean, BP.f_bad_starts]
abbrev n_is_event : List Str := ["value"]
abbrev p_is_event : List Str := ["value"]
abbrev c_is_event : CF := ⟨1, 1,
    (.cons (.iff (.or (.cons (.not (.isi (.var 0) .tuple)) (.cons (.cmp .ne (.p1 .len (.var 0)) (.cst (PyData.int 3))) (.cons (.not (.call 0 (.cons (.idx (.var 0) (.cst (PyData.int 1))) (.cons (.cst (PyData.int 0)) (.cons (.cst (PyData.int 3)) .nil))))) .nil))))
    (.cons (.ret (.cst (PyData.bool false)))
    .nil)
    .nil)
    (.cons (.ret (.and (.cons (.isi (.idx (.var 0) (.cst (PyData.int 0))) .str) (.cons (.isi (.idx (.var 0) (.cst (PyData.int 2))) .str) .nil))))
    .nil))⟩
@[irreducible] def f_is_event (scr : List Int) : Fun := runF (callD fs40 scr) 100000 c_is_event
theorem u_is_event : f_is_event = fun scr => runF (callD fs40 scr) 100000 c_is_event := by
  unfold f_is_event
  rfl
theorem cd_40_0 (scr : List Int) : callD fs40 scr 0 = BP.f_is_between scr := rfl
abbrev fs41 : List (List Int → Fun) := [BP.f_is_between, BP.f_check_items, BP.f_is_state_of, BP.f_is_operation, BP.f_is_action_of, BP.f_check_action, BP.f_applied, BP.f_after, BP.f_states_of, BP.f_all_states, BP.f_first_unlike, BP.f_repeat_state, BP.f_exchange_state, BP.f_back_state, BP.f_loses_nothing, BP.f_is_reversible, BP.f_operations_of, BP.f_way_back, BP.f_is_ascending, BP.f_is_step, BP.f_is_plan, BP.f_check_plan, BP.f_calls_of, BP.f_is_call, BP.f_check_guards, BP.f_check_start, BP.f_all_guards, BP.f_goal_of, BP.f_goal, BP.f_outcomes_of, BP.f_taking_back, BP.f_next_of, BP.f_has_effect, BP.f_called, BP.f_moved, BP.f_is_good_end, BP.f_found_ends, BP.f_are_good, BP.f_ends_clean, BP.f_bad_starts, BP.f_is_event]
abbrev n_followed : List Str := ["plan", "guards", "start", "run", "here", "made", "state", "event"]
abbrev p_followed : List Str := ["plan", "guards", "start", "run"]
abbrev c_followed : CF := ⟨4, 8,
    (.cons (.iff (.not (.isi (.var 3) .tuple))
    (.cons (.ret (.cst PyData.none))
    .nil)
    .nil)
    (.cons (.par [(false, 4), (false, 5), (false, 6)] (.cons (.gcon ("FIRST" : Str) (PyData.tuple [(PyData.str ("do" : Str)), (PyData.int 0)])) (.cons (.tup .nil) (.cons (.var 2) .nil))))
    (.cons (.for (.v 7) (.seq (.var 3))
    (.cons (.iff (.or (.cons (.not (.call 40 (.cons (.var 7) .nil))) (.cons (.isi (.var 4) .str) (.cons (.cmp .ne (.slH (.var 7) (.cst (PyData.int 2))) (.var 4)) .nil))))
    (.cons (.ret (.cst PyData.none))
    .nil)
    .nil)
    (.cons (.iff (.cmp .notin (.idx (.var 7) (.cst (PyData.int 2))) (.call 29 (.cons (.var 0) (.cons (.var 1) (.cons (.var 4) (.cons (.var 5) .nil))))))
    (.cons (.ret (.cst PyData.none))
    .nil)
    .nil)
    (.cons (.asg (.t [(.v 4), (.v 5), (.v 6)]) (.call 34 (.cons (.var 0) (.cons (.var 1) (.cons (.var 4) (.cons (.var 5) (.cons (.var 6) (.cons (.idx (.var 7) (.cst (PyData.int 2))) .nil))))))))
    .nil))))
    (.cons (.ret (.ite (.isi (.var 4) .str) (.tup (.cons (.var 4) (.cons (.var 6) .nil))) (.cst PyData.none)))
    .nil))))⟩
@[irreducible] def f_followed (scr : List Int) : Fun := runF (callD fs41 scr) 100000 c_followed
theorem u_followed : f_followed = fun scr => runF (callD fs41 scr) 100000 c_followed := by
  unfold f_followed
  rfl
theorem cd_41_29 (scr : List Int) : callD fs41 scr 29 = BP.f_outcomes_of scr := rfl
theorem cd_41_34 (scr : List Int) : callD fs41 scr 34 = BP.f_moved scr := rfl
theorem cd_41_40 (scr : List Int) : callD fs41 scr 40 = BP.f_is_event scr := rfl
abbrev fs42 : List (List Int → Fun) := [BP.f_is_between, BP.f_check_items, BP.f_is_state_of, BP.f_is_operation, BP.f_is_action_of, BP.f_check_action, BP.f_applied, BP.f_after, BP.f_states_of, BP.f_all_states, BP.f_first_unlike, BP.f_repeat_state, BP.f_exchange_state, BP.f_back_state, BP.f_loses_nothing, BP.f_is_reversible, BP.f_operations_of, BP.f_way_back, BP.f_is_ascending, BP.f_is_step, BP.f_is_plan, BP.f_check_plan, BP.f_calls_of, BP.f_is_call, BP.f_check_guards, BP.f_check_start, BP.f_all_guards, BP.f_goal_of, BP.f_goal, BP.f_outcomes_of, BP.f_taking_back, BP.f_next_of, BP.f_has_effect, BP.f_called, BP.f_moved, BP.f_is_good_end, BP.f_found_ends, BP.f_are_good, BP.f_ends_clean, BP.f_bad_starts, BP.f_is_event, BP.f_followed]
abbrev n_is_run : List Str := ["plan", "guards", "value"]
abbrev p_is_run : List Str := ["plan", "guards", "value"]
abbrev c_is_run : CF := ⟨3, 3,
    (.cons (.exp (.call 24 (.cons (.var 0) (.cons (.var 1) .nil))))
    (.cons (.ret (.notN (.call 41 (.cons (.var 0) (.cons (.var 1) (.cons (.bin .mul (.tup (.cons (.cst (PyData.int 0)) .nil)) (.idx (.var 0) (.cst (PyData.int 0)))) (.cons (.var 2) .nil)))))))
    .nil))⟩
@[irreducible] def f_is_run (scr : List Int) : Fun := runF (callD fs42 scr) 100000 c_is_run
theorem u_is_run : f_is_run = fun scr => runF (callD fs42 scr) 100000 c_is_run := by
  unfold f_is_run
  rfl
theorem cd_42_24 (scr : List Int) : callD fs42 scr 24 = BP.f_check_guards scr := rfl
theorem cd_42_41 (scr : List Int) : callD fs42 scr 41 = BP.f_followed scr := rfl
abbrev fs43 : List (List Int → Fun) := [BP.f_is_between, BP.f_check_items, BP.f_is_state_of, BP.f_is_operation, BP.f_is_action_of, BP.f_check_action, BP.f_applied, BP.f_after, BP.f_states_of, BP.f_all_states, BP.f_first_unlike, BP.f_repeat_state, BP.f_exchange_state, BP.f_back_state, BP.f_loses_nothing, BP.f_is_reversible, BP.f_operations_of, BP.f_way_back, BP.f_is_ascending, BP.f_is_step, BP.f_is_plan, BP.f_check_plan, BP.f_calls_of, BP.f_is_call, BP.f_check_guards, BP.f_check_start, BP.f_all_guards, BP.f_goal_of, BP.f_goal, BP.f_outcomes_of, BP.f_taking_back, BP.f_next_of, BP.f_has_effect, BP.f_called, BP.f_moved, BP.f_is_good_end, BP.f_found_ends, BP.f_are_good, BP.f_ends_clean, BP.f_bad_starts, BP.f_is_event, BP.f_followed, BP.f_is_run]
abbrev n_run_end : List Str := ["plan", "guards", "start", "run", "found"]
abbrev p_run_end : List Str := ["plan", "guards", "start", "run"]
abbrev c_run_end : CF := ⟨4, 5,
    (.cons (.exp (.call 24 (.cons (.var 0) (.cons (.var 1) .nil))))
    (.cons (.exp (.call 25 (.cons (.var 0) (.cons (.var 2) .nil))))
    (.cons (.asg (.v 4) (.call 41 (.cons (.var 0) (.cons (.var 1) (.cons (.var 2) (.cons (.var 3) .nil))))))
    (.cons (.iff (.isN (.var 4))
    (.cons (.rai 6)
    .nil)
    .nil)
    (.cons (.ret (.var 4))
    .nil)))))⟩
@[irreducible] def f_run_end (scr : List Int) : Fun := runF (callD fs43 scr) 100000 c_run_end
theorem u_run_end : f_run_end = fun scr => runF (callD fs43 scr) 100000 c_run_end := by
  unfold f_run_end
  rfl
theorem cd_43_24 (scr : List Int) : callD fs43 scr 24 = BP.f_check_guards scr := rfl
theorem cd_43_25 (scr : List Int) : callD fs43 scr 25 = BP.f_check_start scr := rfl
theorem cd_43_41 (scr : List Int) : callD fs43 scr 41 = BP.f_followed scr := rfl
abbrev fs44 : List (List Int → Fun) := [BP.f_is_between, BP.f_check_items, BP.f_is_state_of, BP.f_is_operation, BP.f_is_action_of, BP.f_check_action, BP.f_applied, BP.f_after, BP.f_states_of, BP.f_all_states, BP.f_first_unlike, BP.f_repeat_state, BP.f_exchange_state, BP.f_back_state, BP.f_loses_nothing, BP.f_is_reversible, BP.f_operations_of, BP.f_way_back, BP.f_is_ascending, BP.f_is_step, BP.f_is_plan, BP.f_check_plan, BP.f_calls_of, BP.f_is_call, BP.f_check_guards, BP.f_check_start, BP.f_all_guards, BP.f_goal_of, BP.f_goal, BP.f_outcomes_of, BP.f_taking_back, BP.f_next_of, BP.f_has_effect, BP.f_called, BP.f_moved, BP.f_is_good_end, BP.f_found_ends, BP.f_are_good, BP.f_ends_clean, BP.f_bad_starts, BP.f_is_event, BP.f_followed, BP.f_is_run, BP.f_run_end]
abbrev n_bad_run : List Str := ["plan", "guards", "start", "known", "rows", "end"]
abbrev p_bad_run : List Str := ["plan", "guards", "start"]
abbrev c_bad_run : CF := ⟨3, 6,
    (.cons (.exp (.call 24 (.cons (.var 0) (.cons (.var 1) .nil))))
    (.cons (.exp (.call 25 (.cons (.var 0) (.cons (.var 2) .nil))))
    (.cons (.asg (.v 3) (.call 36 (.cons (.var 0) (.cons (.var 1) (.cons (.var 2) .nil)))))
    (.cons (.asg (.v 4) (.lcIf [5] (.v 5) (.keys (.var 3)) (.not (.call 35 (.cons (.var 0) (.cons (.var 2) (.cons (.var 5) .nil))))) (.tup (.cons (.p1 .len (.idx (.var 3) (.var 5))) (.cons (.idx (.var 3) (.var 5)) .nil)))))
    (.cons (.ret (.ite (.cmp .ne (.var 4) (.lst .nil)) (.idx (.p1 .min (.var 4)) (.cst (PyData.int 1))) (.cst PyData.none)))
    .nil)))))⟩
@[irreducible] def f_bad_run (scr : List Int) : Fun := runF (callD fs44 scr) 100000 c_bad_run
theorem u_bad_run : f_bad_run = fun scr => runF (callD fs44 scr) 100000 c_bad_run := by
  unfold f_bad_run
  rfl
theorem cd_44_24 (scr : List Int) : callD fs44 scr 24 = BP.f_check_guards scr := rfl
theorem cd_44_25 (scr : List Int) : callD fs44 scr 25 = BP.f_check_start scr := rfl
theorem cd_44_35 (scr : List Int) : callD fs44 scr 35 = BP.f_is_good_end scr := rfl
theorem cd_44_36 (scr : List Int) : callD fs44 scr 36 = BP.f_found_ends scr := rfl
abbrev fs45 : List (List Int → Fun) := [BP.f_is_between, BP.f_check_items, BP.f_is_state_of, BP.f_is_operation, BP.f_is_action_of, BP.f_check_action, BP.f_applied, BP.f_after, BP.f_states_of, BP.f_all_states, BP.f_first_unlike, BP.f_repeat_state, BP.f_exchange_state, BP.f_back_state, BP.f_loses_nothing, BP.f_is_reversible, BP.f_operations_of, BP.f_way_back, BP.f_is_ascending, BP.f_is_step, BP.f_is_plan, BP.f_check_plan, BP.f_calls_of, BP.f_is_call, BP.f_check_guards, BP.f_check_start, BP.f_all_guards, BP.f_goal_of, BP.f_goal, BP.f_outcomes_of, BP.f_taking_back, BP.f_next_of, BP.f_has_effect, BP.f_called, BP.f_moved, BP.f_is_good_end, BP.f_found_ends, BP.f_are_good, BP.f_ends_clean, BP.f_bad_starts, BP.f_is_event, BP.f_followed, BP.f_is_run, BP.f_run_end, BP.f_bad_run]
abbrev n_ends : List Str := ["plan", "guards", "start"]
abbrev p_ends : List Str := ["plan", "guards", "start"]
abbrev c_ends : CF := ⟨3, 3,
    (.cons (.exp (.call 24 (.cons (.var 0) (.cons (.var 1) .nil))))
    (.cons (.exp (.call 25 (.cons (.var 0) (.cons (.var 2) .nil))))
    (.cons (.ret (.p1 .tuple (.p1 .sorted (.call 36 (.cons (.var 0) (.cons (.var 1) (.cons (.var 2) .nil)))))))
    .nil)))⟩
@[irreducible] def f_ends (scr : List Int) : Fun := runF (callD fs45 scr) 100000 c_ends
theorem u_ends : f_ends = fun scr => runF (callD fs45 scr) 100000 c_ends := by
  unfold f_ends
  rfl
theorem cd_45_24 (scr : List Int) : callD fs45 scr 24 = BP.f_check_guards scr := rfl
theorem cd_45_25 (scr : List Int) : callD fs45 scr 25 = BP.f_check_start scr := rfl
theorem cd_45_36 (scr : List Int) : callD fs45 scr 36 = BP.f_found_ends scr := rfl
abbrev fs46 : List (List Int → Fun) := [BP.f_is_between, BP.f_check_items, BP.f_is_state_of, BP.f_is_operation, BP.f_is_action_of, BP.f_check_action, BP.f_applied, BP.f_after, BP.f_states_of, BP.f_all_states, BP.f_first_unlike, BP.f_repeat_state, BP.f_exchange_state, BP.f_back_state, BP.f_loses_nothing, BP.f_is_reversible, BP.f_operations_of, BP.f_way_back, BP.f_is_ascending, BP.f_is_step, BP.f_is_plan, BP.f_check_plan, BP.f_calls_of, BP.f_is_call, BP.f_check_guards, BP.f_check_start, BP.f_all_guards, BP.f_goal_of, BP.f_goal, BP.f_outcomes_of, BP.f_taking_back, BP.f_next_of, BP.f_has_effect, BP.f_called, BP.f_moved, BP.f_is_good_end, BP.f_found_ends, BP.f_are_good, BP.f_ends_clean, BP.f_bad_starts, BP.f_is_event, BP.f_followed, BP.f_is_run, BP.f_run_end, BP.f_bad_run, BP.f_ends]
abbrev n_guards_in : List Str := ["plan", "rows", "call", "size", "row"]
abbrev p_guards_in : List Str := ["plan"]
abbrev c_guards_in : CF := ⟨1, 5,
    (.cons (.asg (.v 1) (.lst (.cons (.tup .nil) .nil)))
    (.cons (.for (.v 2) (.seq (.call 22 (.cons (.var 0) .nil)))
    (.cons (.asg (.v 1) (.bin .add (.var 1) (.lc [4] (.v 4) (.seq (.var 1)) (.bin .add (.var 4) (.tup (.cons (.var 2) .nil))))))
    .nil))
    (.cons (.ret (.lc [3, 4] (.t [(.v 3), (.v 4)]) (.seq (.p1 .sorted (.lc [4] (.v 4) (.seq (.var 1)) (.tup (.cons (.p1 .len (.var 4)) (.cons (.var 4) .nil)))))) (.var 4)))
    .nil)))⟩
@[irreducible] def f_guards_in (scr : List Int) : Fun := runF (callD fs46 scr) 100000 c_guards_in
theorem u_guards_in : f_guards_in = fun scr => runF (callD fs46 scr) 100000 c_guards_in := by
  unfold f_guards_in
  rfl
theorem cd_46_22 (scr : List Int) : callD fs46 scr 22 = BP.f_calls_of scr := rfl
abbrev fs47 : List (List Int → Fun) := [BP.f_is_between, BP.f_check_items, BP.f_is_state_of, BP.f_is_operation, BP.f_is_action_of, BP.f_check_action, BP.f_applied, BP.f_after, BP.f_states_of, BP.f_all_states, BP.f_first_unlike, BP.f_repeat_state, BP.f_exchange_state, BP.f_back_state, BP.f_loses_nothing, BP.f_is_reversible, BP.f_operations_of, BP.f_way_back, BP.f_is_ascending, BP.f_is_step, BP.f_is_plan, BP.f_check_plan, BP.f_calls_of, BP.f_is_call, BP.f_check_guards, BP.f_check_start, BP.f_all_guards, BP.f_goal_of, BP.f_goal, BP.f_outcomes_of, BP.f_taking_back, BP.f_next_of, BP.f_has_effect, BP.f_called, BP.f_moved, BP.f_is_good_end, BP.f_found_ends, BP.f_are_good, BP.f_ends_clean, BP.f_bad_starts, BP.f_is_event, BP.f_followed, BP.f_is_run, BP.f_run_end, BP.f_bad_run, BP.f_ends, BP.f_guards_in]
abbrev n_fewest_guards : List Str := ["plan", "start", "guards"]
abbrev p_fewest_guards : List Str := ["plan", "start"]
abbrev c_fewest_guards : CF := ⟨2, 3,
    (.cons (.exp (.call 21 (.cons (.var 0) .nil)))
    (.cons (.exp (.call 25 (.cons (.var 0) (.cons (.var 1) .nil))))
    (.cons (.for (.v 2) (.seq (.call 46 (.cons (.var 0) .nil)))
    (.cons (.iff (.call 37 (.cons (.var 0) (.cons (.var 2) (.cons (.var 1) .nil))))
    (.cons (.ret (.var 2))
    .nil)
    .nil)
    .nil))
    (.cons (.ret (.cst PyData.none))
    .nil))))⟩
@[irreducible] def f_fewest_guards (scr : List Int) : Fun := runF (callD fs47 scr) 100000 c_fewest_guards
theorem u_fewest_guards : f_fewest_guards = fun scr => runF (callD fs47 scr) 100000 c_fewest_guards := by
  unfold f_fewest_guards
  rfl
theorem cd_47_21 (scr : List Int) : callD fs47 scr 21 = BP.f_check_plan scr := rfl
theorem cd_47_25 (scr : List Int) : callD fs47 scr 25 = BP.f_check_start scr := rfl
theorem cd_47_37 (scr : List Int) : callD fs47 scr 37 = BP.f_are_good scr := rfl
theorem cd_47_46 (scr : List Int) : callD fs47 scr 46 = BP.f_guards_in scr := rfl
abbrev fs48 : List (List Int → Fun) := [BP.f_is_between, BP.f_check_items, BP.f_is_state_of, BP.f_is_operation, BP.f_is_action_of, BP.f_check_action, BP.f_applied, BP.f_after, BP.f_states_of, BP.f_all_states, BP.f_first_unlike, BP.f_repeat_state, BP.f_exchange_state, BP.f_back_state, BP.f_loses_nothing, BP.f_is_reversible, BP.f_operations_of, BP.f_way_back, BP.f_is_ascending, BP.f_is_step, BP.f_is_plan, BP.f_check_plan, BP.f_calls_of, BP.f_is_call, BP.f_check_guards, BP.f_check_start, BP.f_all_guards, BP.f_goal_of, BP.f_goal, BP.f_outcomes_of, BP.f_taking_back, BP.f_next_of, BP.f_has_effect, BP.f_called, BP.f_moved, BP.f_is_good_end, BP.f_found_ends, BP.f_are_good, BP.f_ends_clean, BP.f_bad_starts, BP.f_is_event, BP.f_followed, BP.f_is_run, BP.f_run_end, BP.f_bad_run, BP.f_ends, BP.f_guards_in, BP.f_fewest_guards]
abbrev n_guards_for_all : List Str := ["plan", "some", "guards", "start"]
abbrev p_guards_for_all : List Str := ["plan"]
abbrev c_guards_for_all : CF := ⟨1, 4,
    (.cons (.exp (.call 21 (.cons (.var 0) .nil)))
    (.cons (.asg (.v 1) (.call 8 (.cons (.idx (.var 0) (.cst (PyData.int 0))) .nil)))
    (.cons (.for (.v 2) (.seq (.call 46 (.cons (.var 0) .nil)))
    (.cons (.iff (.p1 .all (.lc [3] (.v 3) (.seq (.var 1)) (.call 37 (.cons (.var 0) (.cons (.var 2) (.cons (.var 3) .nil))))))
    (.cons (.ret (.var 2))
    .nil)
    .nil)
    .nil))
    (.cons (.ret (.cst PyData.none))
    .nil))))⟩
@[irreducible] def f_guards_for_all (scr : List Int) : Fun := runF (callD fs48 scr) 100000 c_guards_for_all
theorem u_guards_for_all : f_guards_for_all = fun scr => runF (callD fs48 scr) 100000 c_guards_for_all := by
  unfold f_guards_for_all
  rfl
theorem cd_48_8 (scr : List Int) : callD fs48 scr 8 = BP.f_states_of scr := rfl
theorem cd_48_21 (scr : List Int) : callD fs48 scr 21 = BP.f_check_plan scr := rfl
theorem cd_48_37 (scr : List Int) : callD fs48 scr 37 = BP.f_are_good scr := rfl
theorem cd_48_46 (scr : List Int) : callD fs48 scr 46 = BP.f_guards_in scr := rfl
abbrev fs49 : List (List Int → Fun) := [BP.f_is_between, BP.f_check_items, BP.f_is_state_of, BP.f_is_operation, BP.f_is_action_of, BP.f_check_action, BP.f_applied, BP.f_after, BP.f_states_of, BP.f_all_states, BP.f_first_unlike, BP.f_repeat_state, BP.f_exchange_state, BP.f_back_state, BP.f_loses_nothing, BP.f_is_reversible, BP.f_operations_of, BP.f_way_back, BP.f_is_ascending, BP.f_is_step, BP.f_is_plan, BP.f_check_plan, BP.f_calls_of, BP.f_is_call, BP.f_check_guards, BP.f_check_start, BP.f_all_guards, BP.f_goal_of, BP.f_goal, BP.f_outcomes_of, BP.f_taking_back, BP.f_next_of, BP.f_has_effect, BP.f_called, BP.f_moved, BP.f_is_good_end, BP.f_found_ends, BP.f_are_good, BP.f_ends_clean, BP.f_bad_starts, BP.f_is_event, BP.f_followed, BP.f_is_run, BP.f_run_end, BP.f_bad_run, BP.f_ends, BP.f_guards_in, BP.f_fewest_guards, BP.f_guards_for_all]
abbrev n_can_get_stuck : List Str := ["plan", "end"]
abbrev p_can_get_stuck : List Str := ["plan"]
abbrev c_can_get_stuck : CF := ⟨1, 2,
    (.cons (.exp (.call 21 (.cons (.var 0) .nil)))
    (.cons (.ret (.cmp .isin (.cst (PyData.str ("stuck" : Str))) (.lc [1] (.v 1) (.keys (.call 36 (.cons (.var 0) (.cons (.call 22 (.cons (.var 0) .nil)) (.cons (.bin .mul (.tup (.cons (.cst (PyData.int 0)) .nil)) (.idx (.var 0) (.cst (PyData.int 0)))) .nil))))) (.idx (.var 1) (.cst (PyData.int 0))))))
    .nil))⟩
@[irreducible] def f_can_get_stuck (scr : List Int) : Fun := runF (callD fs49 scr) 100000 c_can_get_stuck
theorem u_can_get_stuck : f_can_get_stuck = fun scr => runF (callD fs49 scr) 100000 c_can_get_stuck := by
  unfold f_can_get_stuck
  rfl
theorem cd_49_21 (scr : List Int) : callD fs49 scr 21 = BP.f_check_plan scr := rfl
theorem cd_49_22 (scr : List Int) : callD fs49 scr 22 = BP.f_calls_of scr := rfl
theorem cd_49_36 (scr : List Int) : callD fs49 scr 36 = BP.f_found_ends scr := rfl
abbrev fs50 : List (List Int → Fun) := [BP.f_is_between, BP.f_check_items, BP.f_is_state_of, BP.f_is_operation, BP.f_is_action_of, BP.f_check_action, BP.f_applied, BP.f_after, BP.f_states_of, BP.f_all_states, BP.f_first_unlike, BP.f_repeat_state, BP.f_exchange_state, BP.f_back_state, BP.f_loses_nothing, BP.f_is_reversible, BP.f_operations_of, BP.f_way_back, BP.f_is_ascending, BP.f_is_step, BP.f_is_plan, BP.f_check_plan, BP.f_calls_of, BP.f_is_call, BP.f_check_guards, BP.f_check_start, BP.f_all_guards, BP.f_goal_of, BP.f_goal, BP.f_outcomes_of, BP.f_taking_back, BP.f_next_of, BP.f_has_effect, BP.f_called, BP.f_moved, BP.f_is_good_end, BP.f_found_ends, BP.f_are_good, BP.f_ends_clean, BP.f_bad_starts, BP.f_is_event, BP.f_followed, BP.f_is_run, BP.f_run_end, BP.f_bad_run, BP.f_ends, BP.f_guards_in, BP.f_fewest_guards, BP.f_guards_for_all, BP.f_can_get_stuck]
abbrev n_in_order : List Str := ["plan", "order", "at"]
abbrev p_in_order : List Str := ["plan", "order"]
abbrev c_in_order : CF := ⟨2, 3,
    (.cons (.ret (.tup (.cons (.idx (.var 0) (.cst (PyData.int 0))) (.cons (.p1 .tuple (.lc [2] (.v 2) (.seq (.var 1)) (.idx (.idx (.var 0) (.cst (PyData.int 1))) (.var 2)))) (.cons (.idx (.var 0) (.cst (PyData.int 2))) .nil)))))
    .nil)⟩
@[irreducible] def f_in_order (scr : List Int) : Fun := runF (callD fs50 scr) 100000 c_in_order
theorem u_in_order : f_in_order = fun scr => runF (callD fs50 scr) 100000 c_in_order := by
  unfold f_in_order
  rfl
abbrev fs51 : List (List Int → Fun) := [BP.f_is_between, BP.f_check_items, BP.f_is_state_of, BP.f_is_operation, BP.f_is_action_of, BP.f_check_action, BP.f_applied, BP.f_after, BP.f_states_of, BP.f_all_states, BP.f_first_unlike, BP.f_repeat_state, BP.f_exchange_state, BP.f_back_state, BP.f_loses_nothing, BP.f_is_reversible, BP.f_operations_of, BP.f_way_back, BP.f_is_ascending, BP.f_is_step, BP.f_is_plan, BP.f_check_plan, BP.f_calls_of, BP.f_is_call, BP.f_check_guards, BP.f_check_start, BP.f_all_guards, BP.f_goal_of, BP.f_goal, BP.f_outcomes_of, BP.f_taking_back, BP.f_next_of, BP.f_has_effect, BP.f_called, BP.f_moved, BP.f_is_good_end, BP.f_found_ends, BP.f_are_good, BP.f_ends_clean, BP.f_bad_starts, BP.f_is_event, BP.f_followed, BP.f_is_run, BP.f_run_end, BP.f_bad_run, BP.f_ends, BP.f_guards_in, BP.f_fewest_guards, BP.f_guards_for_all, BP.f_can_get_stuck, BP.f_in_order]
abbrev n_reordered : List Str := ["plan", "order", "many", "at"]
abbrev p_reordered : List Str := ["plan", "order"]
abbrev c_reordered : CF := ⟨2, 4,
    (.cons (.exp (.call 21 (.cons (.var 0) .nil)))
    (.cons (.asg (.v 2) (.p1 .len (.idx (.var 0) (.cst (PyData.int 1)))))
    (.cons (.iff (.or (.cons (.not (.isi (.var 1) .tuple)) (.cons (.not (.p1 .all (.lc [3] (.v 3) (.seq (.var 1)) (.call 0 (.cons (.var 3) (.cons (.cst (PyData.int 0)) (.cons (.bin .sub (.var 2) (.cst (PyData.int 1))) .nil))))))) .nil)))
    (.cons (.rai 7)
    .nil)
    .nil)
    (.cons (.iff (.cmp .ne (.p1 .sorted (.var 1)) (.lrng (.var 2)))
    (.cons (.rai 7)
    .nil)
    .nil)
    (.cons (.ret (.call 50 (.cons (.var 0) (.cons (.var 1) .nil))))
    .nil)))))⟩
@[irreducible] def f_reordered (scr : List Int) : Fun := runF (callD fs51 scr) 100000 c_reordered
theorem u_reordered : f_reordered = fun scr => runF (callD fs51 scr) 100000 c_reordered := by
  unfold f_reordered
  rfl
theorem cd_51_0 (scr : List Int) : callD fs51 scr 0 = BP.f_is_between scr := rfl
theorem cd_51_21 (scr : List Int) : callD fs51 scr 21 = BP.f_check_plan scr := rfl
theorem cd_51_50 (scr : List Int) : callD fs51 scr 50 = BP.f_in_order scr := rfl
abbrev fs52 : List (List Int → Fun) := [BP.f_is_between, BP.f_check_items, BP.f_is_state_of, BP.f_is_operation, BP.f_is_action_of, BP.f_check_action, BP.f_applied, BP.f_after, BP.f_states_of, BP.f_all_states, BP.f_first_unlike, BP.f_repeat_state, BP.f_exchange_state, BP.f_back_state, BP.f_loses_nothing, BP.f_is_reversible, BP.f_operations_of, BP.f_way_back, BP.f_is_ascending, BP.f_is_step, BP.f_is_plan, BP.f_check_plan, BP.f_calls_of, BP.f_is_call, BP.f_check_guards, BP.f_check_start, BP.f_all_guards, BP.f_goal_of, BP.f_goal, BP.f_outcomes_of, BP.f_taking_back, BP.f_next_of, BP.f_has_effect, BP.f_called, BP.f_moved, BP.f_is_good_end, BP.f_found_ends, BP.f_are_good, BP.f_ends_clean, BP.f_bad_starts, BP.f_is_event, BP.f_followed, BP.f_is_run, BP.f_run_end, BP.f_bad_run, BP.f_ends, BP.f_guards_in, BP.f_fewest_guards, BP.f_guards_for_all, BP.f_can_get_stuck, BP.f_in_order, BP.f_reordered]
abbrev n_orders_of : List Str := ["plan", "rows", "turn", "longer", "row", "at"]
abbrev p_orders_of : List Str := ["plan"]
abbrev c_orders_of : CF := ⟨1, 6,
    (.cons (.asg (.v 1) (.lst (.cons (.tup .nil) .nil)))
    (.cons (.for (.v 2) (.rng (.p1 .len (.idx (.var 0) (.cst (PyData.int 1)))))
    (.cons (.own 3 (.lst .nil))
    (.cons (.for (.v 4) (.seq (.var 1))
    (.cons (.ext 3 (.lcIf [5] (.v 5) (.rng (.p1 .len (.idx (.var 0) (.cst (PyData.int 1))))) (.cmp .notin (.var 5) (.var 4)) (.bin .add (.var 4) (.tup (.cons (.var 5) .nil)))))
    .nil))
    (.cons (.frz [3])
    (.cons (.asg (.v 1) (.var 3))
    .nil)))))
    (.cons (.ret (.var 1))
    .nil)))⟩
@[irreducible] def f_orders_of (scr : List Int) : Fun := runF (callD fs52 scr) 100000 c_orders_of
theorem u_orders_of : f_orders_of = fun scr => runF (callD fs52 scr) 100000 c_orders_of := by
  unfold f_orders_of
  rfl
abbrev fs53 : List (List Int → Fun) := [BP.f_is_between, BP.f_check_items, BP.f_is_state_of, BP.f_is_operation, BP.f_is_action_of, BP.f_check_action, BP.f_applied, BP.f_after, BP.f_states_of, BP.f_all_states, BP.f_first_unlike, BP.f_repeat_state, BP.f_exchange_state, BP.f_back_state, BP.f_loses_nothing, BP.f_is_reversible, BP.f_operations_of, BP.f_way_back, BP.f_is_ascending, BP.f_is_step, BP.f_is_plan, BP.f_check_plan, BP.f_calls_of, BP.f_is_call, BP.f_check_guards, BP.f_check_start, BP.f_all_guards, BP.f_goal_of, BP.f_goal, BP.f_outcomes_of, BP.f_taking_back, BP.f_next_of, BP.f_has_effect, BP.f_called, BP.f_moved, BP.f_is_good_end, BP.f_found_ends, BP.f_are_good, BP.f_ends_clean, BP.f_bad_starts, BP.f_is_event, BP.f_followed, BP.f_is_run, BP.f_run_end, BP.f_bad_run, BP.f_ends, BP.f_guards_in, BP.f_fewest_guards, BP.f_guards_for_all, BP.f_can_get_stuck, BP.f_in_order, BP.f_reordered, BP.f_orders_of]
abbrev n_same_goal : List Str := ["plan", "start", "due", "order"]
abbrev p_same_goal : List Str := ["plan", "start"]
abbrev c_same_goal : CF := ⟨2, 4,
    (.cons (.asg (.v 2) (.call 27 (.cons (.var 0) (.cons (.var 1) .nil))))
    (.cons (.ret (.lcIf [3] (.v 3) (.seq (.call 52 (.cons (.var 0) .nil))) (.cmp .eq (.call 27 (.cons (.call 50 (.cons (.var 0) (.cons (.var 3) .nil))) (.cons (.var 1) .nil))) (.var 2)) (.var 3)))
    .nil))⟩
@[irreducible] def f_same_goal (scr : List Int) : Fun := runF (callD fs53 scr) 100000 c_same_goal
theorem u_same_goal : f_same_goal = fun scr => runF (callD fs53 scr) 100000 c_same_goal := by
  unfold f_same_goal
  rfl
theorem cd_53_27 (scr : List Int) : callD fs53 scr 27 = BP.f_goal_of scr := rfl
theorem cd_53_50 (scr : List Int) : callD fs53 scr 50 = BP.f_in_order scr := rfl
theorem cd_53_52 (scr : List Int) : callD fs53 scr 52 = BP.f_orders_of scr := rfl
abbrev fs54 : List (List Int → Fun) := [BP.f_is_between, BP.f_check_items, BP.f_is_state_of, BP.f_is_operation, BP.f_is_action_of, BP.f_check_action, BP.f_applied, BP.f_after, BP.f_states_of, BP.f_all_states, BP.f_first_unlike, BP.f_repeat_state, BP.f_exchange_state, BP.f_back_state, BP.f_loses_nothing, BP.f_is_reversible, BP.f_operations_of, BP.f_way_back, BP.f_is_ascending, BP.f_is_step, BP.f_is_plan, BP.f_check_plan, BP.f_calls_of, BP.f_is_call, BP.f_check_guards, BP.f_check_start, BP.f_all_guards, BP.f_goal_of, BP.f_goal, BP.f_outcomes_of, BP.f_taking_back, BP.f_next_of, BP.f_has_effect, BP.f_called, BP.f_moved, BP.f_is_good_end, BP.f_found_ends, BP.f_are_good, BP.f_ends_clean, BP.f_bad_starts, BP.f_is_event, BP.f_followed, BP.f_is_run, BP.f_run_end, BP.f_bad_run, BP.f_ends, BP.f_guards_in, BP.f_fewest_guards, BP.f_guards_for_all, BP.f_can_get_stuck, BP.f_in_order, BP.f_reordered, BP.f_orders_of, BP.f_same_goal]
abbrev n_goal_orders : List Str := ["plan", "start"]
abbrev p_goal_orders : List Str := ["plan", "start"]
abbrev c_goal_orders : CF := ⟨2, 2,
    (.cons (.exp (.call 21 (.cons (.var 0) .nil)))
    (.cons (.exp (.call 25 (.cons (.var 0) (.cons (.var 1) .nil))))
    (.cons (.ret (.p1 .tuple (.call 53 (.cons (.var 0) (.cons (.var 1) .nil)))))
    .nil)))⟩
@[irreducible] def f_goal_orders (scr : List Int) : Fun := runF (callD fs54 scr) 100000 c_goal_orders
theorem u_goal_orders : f_goal_orders = fun scr => runF (callD fs54 scr) 100000 c_goal_orders := by
  unfold f_goal_orders
  rfl
theorem cd_54_21 (scr : List Int) : callD fs54 scr 21 = BP.f_check_plan scr := rfl
theorem cd_54_25 (scr : List Int) : callD fs54 scr 25 = BP.f_check_start scr := rfl
theorem cd_54_53 (scr : List Int) : callD fs54 scr 53 = BP.f_same_goal scr := rfl
abbrev fs55 : List (List Int → Fun) := [BP.f_is_between, BP.f_check_items, BP.f_is_state_of, BP.f_is_operation, BP.f_is_action_of, BP.f_check_action, BP.f_applied, BP.f_after, BP.f_states_of, BP.f_all_states, BP.f_first_unlike, BP.f_repeat_state, BP.f_exchange_state, BP.f_back_state, BP.f_loses_nothing, BP.f_is_reversible, BP.f_operations_of, BP.f_way_back, BP.f_is_ascending, BP.f_is_step, BP.f_is_plan, BP.f_check_plan, BP.f_calls_of, BP.f_is_call, BP.f_check_guards, BP.f_check_start, BP.f_all_guards, BP.f_goal_of, BP.f_goal, BP.f_outcomes_of, BP.f_taking_back, BP.f_next_of, BP.f_has_effect, BP.f_called, BP.f_moved, BP.f_is_good_end, BP.f_found_ends, BP.f_are_good, BP.f_ends_clean, BP.f_bad_starts, BP.f_is_event, BP.f_followed, BP.f_is_run, BP.f_run_end, BP.f_bad_run, BP.f_ends, BP.f_guards_in, BP.f_fewest_guards, BP.f_guards_for_all, BP.f_can_get_stuck, BP.f_in_order, BP.f_reordered, BP.f_orders_of, BP.f_same_goal, BP.f_goal_orders]
abbrev n_clean_orders : List Str := ["plan", "start", "found", "order", "there"]
abbrev p_clean_orders : List Str := ["plan", "start"]
abbrev c_clean_orders : CF := ⟨2, 5,
    (.cons (.exp (.call 21 (.cons (.var 0) .nil)))
    (.cons (.exp (.call 25 (.cons (.var 0) (.cons (.var 1) .nil))))
    (.cons (.own 2 (.lst .nil))
    (.cons (.for (.v 3) (.seq (.call 53 (.cons (.var 0) (.cons (.var 1) .nil))))
    (.cons (.asg (.v 4) (.call 50 (.cons (.var 0) (.cons (.var 3) .nil))))
    (.cons (.iff (.call 37 (.cons (.var 4) (.cons (.call 22 (.cons (.var 4) .nil)) (.cons (.var 1) .nil))))
    (.cons (.app 2 (.var 3))
    .nil)
    .nil)
    .nil)))
    (.cons (.ret (.p1 .tuple (.var 2)))
    .nil)))))⟩
@[irreducible] def f_clean_orders (scr : List Int) : Fun := runF (callD fs55 scr) 100000 c_clean_orders
theorem u_clean_orders : f_clean_orders = fun scr => runF (callD fs55 scr) 100000 c_clean_orders := by
  unfold f_clean_orders
  rfl
theorem cd_55_21 (scr : List Int) : callD fs55 scr 21 = BP.f_check_plan scr := rfl
theorem cd_55_22 (scr : List Int) : callD fs55 scr 22 = BP.f_calls_of scr := rfl
theorem cd_55_25 (scr : List Int) : callD fs55 scr 25 = BP.f_check_start scr := rfl
theorem cd_55_37 (scr : List Int) : callD fs55 scr 37 = BP.f_are_good scr := rfl
theorem cd_55_50 (scr : List Int) : callD fs55 scr 50 = BP.f_in_order scr := rfl
theorem cd_55_53 (scr : List Int) : callD fs55 scr 53 = BP.f_same_goal scr := rfl
abbrev fs56 : List (List Int → Fun) := [BP.f_is_between, BP.f_check_items, BP.f_is_state_of, BP.f_is_operation, BP.f_is_action_of, BP.f_check_action, BP.f_applied, BP.f_after, BP.f_states_of, BP.f_all_states, BP.f_first_unlike, BP.f_repeat_state, BP.f_exchange_state, BP.f_back_state, BP.f_loses_nothing, BP.f_is_reversible, BP.f_operations_of, BP.f_way_back, BP.f_is_ascending, BP.f_is_step, BP.f_is_plan, BP.f_check_plan, BP.f_calls_of, BP.f_is_call, BP.f_check_guards, BP.f_check_start, BP.f_all_guards, BP.f_goal_of, BP.f_goal, BP.f_outcomes_of, BP.f_taking_back, BP.f_next_of, BP.f_has_effect, BP.f_called, BP.f_moved, BP.f_is_good_end, BP.f_found_ends, BP.f_are_good, BP.f_ends_clean, BP.f_bad_starts, BP.f_is_event, BP.f_followed, BP.f_is_run, BP.f_run_end, BP.f_bad_run, BP.f_ends, BP.f_guards_in, BP.f_fewest_guards, BP.f_guards_for_all, BP.f_can_get_stuck, BP.f_in_order, BP.f_reordered, BP.f_orders_of, BP.f_same_goal, BP.f_goal_orders, BP.f_clean_orders]
abbrev n_is_settled : List Str := ["plan", "start"]
abbrev p_is_settled : List Str := ["plan"]
abbrev c_is_settled : CF := ⟨1, 2,
    (.cons (.exp (.call 21 (.cons (.var 0) .nil)))
    (.cons (.ret (.p1 .all (.lc [1] (.v 1) (.seq (.call 8 (.cons (.idx (.var 0) (.cst (PyData.int 0))) .nil))) (.cmp .eq (.call 53 (.cons (.var 0) (.cons (.var 1) .nil))) (.call 52 (.cons (.var 0) .nil))))))
    .nil))⟩
@[irreducible] def f_is_settled (scr : List Int) : Fun := runF (callD fs56 scr) 100000 c_is_settled
theorem u_is_settled : f_is_settled = fun scr => runF (callD fs56 scr) 100000 c_is_settled := by
  unfold f_is_settled
  rfl
theorem cd_56_8 (scr : List Int) : callD fs56 scr 8 = BP.f_states_of scr := rfl
theorem cd_56_21 (scr : List Int) : callD fs56 scr 21 = BP.f_check_plan scr := rfl
theorem cd_56_52 (scr : List Int) : callD fs56 scr 52 = BP.f_orders_of scr := rfl
theorem cd_56_53 (scr : List Int) : callD fs56 scr 53 = BP.f_same_goal scr := rfl
abbrev fs57 : List (List Int → Fun) := [BP.f_is_between, BP.f_check_items, BP.f_is_state_of, BP.f_is_operation, BP.f_is_action_of, BP.f_check_action, BP.f_applied, BP.f_after, BP.f_states_of, BP.f_all_states, BP.f_first_unlike, BP.f_repeat_state, BP.f_exchange_state, BP.f_back_state, BP.f_loses_nothing, BP.f_is_reversible, BP.f_operations_of, BP.f_way_back, BP.f_is_ascending, BP.f_is_step, BP.f_is_plan, BP.f_check_plan, BP.f_calls_of, BP.f_is_call, BP.f_check_guards, BP.f_check_start, BP.f_all_guards, BP.f_goal_of, BP.f_goal, BP.f_outcomes_of, BP.f_taking_back, BP.f_next_of, BP.f_has_effect, BP.f_called, BP.f_moved, BP.f_is_good_end, BP.f_found_ends, BP.f_are_good, BP.f_ends_clean, BP.f_bad_starts, BP.f_is_event, BP.f_followed, BP.f_is_run, BP.f_run_end, BP.f_bad_run, BP.f_ends, BP.f_guards_in, BP.f_fewest_guards, BP.f_guards_for_all, BP.f_can_get_stuck, BP.f_in_order, BP.f_reordered, BP.f_orders_of, BP.f_same_goal, BP.f_goal_orders, BP.f_clean_orders, BP.f_is_settled]
abbrev n_law_is : List Str := ["_law_found", "_law_expected"]
abbrev p_law_is : List Str := ["_law_found", "_law_expected"]
abbrev c_law_is : CF := ⟨2, 2,
    (.cons (.ret (.and (.cons (.isi (.var 0) .bool) (.cons (.cmp .eq (.var 0) (.var 1)) .nil))))
    .nil)⟩
@[irreducible] def f_law_is (scr : List Int) : Fun := runF (callD fs57 scr) 100000 c_law_is
theorem u_law_is : f_law_is = fun scr => runF (callD fs57 scr) 100000 c_law_is := by
  unfold f_law_is
  rfl
abbrev fs58 : List (List Int → Fun) := [BP.f_is_between, BP.f_check_items, BP.f_is_state_of, BP.f_is_operation, BP.f_is_action_of, BP.f_check_action, BP.f_applied, BP.f_after, BP.f_states_of, BP.f_all_states, BP.f_first_unlike, BP.f_repeat_state, BP.f_exchange_state, BP.f_back_state, BP.f_loses_nothing, BP.f_is_reversible, BP.f_operations_of, BP.f_way_back, BP.f_is_ascending, BP.f_is_step, BP.f_is_plan, BP.f_check_plan, BP.f_calls_of, BP.f_is_call, BP.f_check_guards, BP.f_check_start, BP.f_all_guards, BP.f_goal_of, BP.f_goal, BP.f_outcomes_of, BP.f_taking_back, BP.f_next_of, BP.f_has_effect, BP.f_called, BP.f_moved, BP.f_is_good_end, BP.f_found_ends, BP.f_are_good, BP.f_ends_clean, BP.f_bad_starts, BP.f_is_event, BP.f_followed, BP.f_is_run, BP.f_run_end, BP.f_bad_run, BP.f_ends, BP.f_guards_in, BP.f_fewest_guards, BP.f_guards_for_all, BP.f_can_get_stuck, BP.f_in_order, BP.f_reordered, BP.f_orders_of, BP.f_same_goal, BP.f_goal_orders, BP.f_clean_orders, BP.f_is_settled, BP.f_law_is]
abbrev n_law_after : List Str := ["_law_action_here", "_law_state", "_law_known", "_law_name", "_law_item", "_law_value"]
abbrev p_law_after : List Str := ["_law_action_here", "_law_state"]
abbrev c_law_after : CF := ⟨2, 6,
    (.cons (.own 2 (.dke (.lenum (.var 1))))
    (.cons (.for (.t [(.v 3), (.v 4), (.v 5)]) (.seq (.var 0))
    (.cons (.iff (.cmp .eq (.var 3) (.cst (PyData.str ("copy" : Str))))
    (.cons (.sto 2 (.var 5) (.idx (.var 2) (.var 4)))
    .nil)
    (.cons (.sto 2 (.var 4) (.ite (.cmp .eq (.var 3) (.cst (PyData.str ("set" : Str)))) (.var 5) (.bin .mod (.bin .add (.idx (.var 2) (.var 4)) (.var 5)) (.cst (PyData.int 3)))))
    .nil))
    .nil))
    (.cons (.ret (.p1 .tuple (.lc [4] (.v 4) (.rng (.p1 .len (.var 1))) (.idx (.var 2) (.var 4)))))
    .nil)))⟩
@[irreducible] def f_law_after (scr : List Int) : Fun := runF (callD fs58 scr) 100000 c_law_after
theorem u_law_after : f_law_after = fun scr => runF (callD fs58 scr) 100000 c_law_after := by
  unfold f_law_after
  rfl
abbrev fs59 : List (List Int → Fun) := [BP.f_is_between, BP.f_check_items, BP.f_is_state_of, BP.f_is_operation, BP.f_is_action_of, BP.f_check_action, BP.f_applied, BP.f_after, BP.f_states_of, BP.f_all_states, BP.f_first_unlike, BP.f_repeat_state, BP.f_exchange_state, BP.f_back_state, BP.f_loses_nothing, BP.f_is_reversible, BP.f_operations_of, BP.f_way_back, BP.f_is_ascending, BP.f_is_step, BP.f_is_plan, BP.f_check_plan, BP.f_calls_of, BP.f_is_call, BP.f_check_guards, BP.f_check_start, BP.f_all_guards, BP.f_goal_of, BP.f_goal, BP.f_outcomes_of, BP.f_taking_back, BP.f_next_of, BP.f_has_effect, BP.f_called, BP.f_moved, BP.f_is_good_end, BP.f_found_ends, BP.f_are_good, BP.f_ends_clean, BP.f_bad_starts, BP.f_is_event, BP.f_followed, BP.f_is_run, BP.f_run_end, BP.f_bad_run, BP.f_ends, BP.f_guards_in, BP.f_fewest_guards, BP.f_guards_for_all, BP.f_can_get_stuck, BP.f_in_order, BP.f_reordered, BP.f_orders_of, BP.f_same_goal, BP.f_goal_orders, BP.f_clean_orders, BP.f_is_settled, BP.f_law_is, BP.f_law_after]
abbrev n_law_states : List Str := ["_law_items_here", "_law_found", "_law_number", "_law_digits"]
abbrev p_law_states : List Str := ["_law_items_here"]
abbrev c_law_states : CF := ⟨1, 4,
    (.cons (.own 1 (.lst .nil))
    (.cons (.for (.v 2) (.rng (.idx (.tup (.cons (.cst (PyData.int 3)) (.cons (.cst (PyData.int 9)) (.cons (.cst (PyData.int 27)) .nil)))) (.bin .sub (.var 0) (.cst (PyData.int 1)))))
    (.cons (.asg (.v 3) (.tup (.cons (.bin .fdiv (.var 2) (.cst (PyData.int 9))) (.cons (.bin .mod (.bin .fdiv (.var 2) (.cst (PyData.int 3))) (.cst (PyData.int 3))) (.cons (.bin .mod (.var 2) (.cst (PyData.int 3))) .nil)))))
    (.cons (.app 1 (.slL (.var 3) (.bin .sub (.cst (PyData.int 3)) (.var 0))))
    .nil)))
    (.cons (.frz [1])
    (.cons (.ret (.var 1))
    .nil))))⟩
@[irreducible] def f_law_states (scr : List Int) : Fun := runF (callD fs59 scr) 100000 c_law_states
theorem u_law_states : f_law_states = fun scr => runF (callD fs59 scr) 100000 c_law_states := by
  unfold f_law_states
  rfl
abbrev fs60 : List (List Int → Fun) := [BP.f_is_between, BP.f_check_items, BP.f_is_state_of, BP.f_is_operation, BP.f_is_action_of, BP.f_check_action, BP.f_applied, BP.f_after, BP.f_states_of, BP.f_all_states, BP.f_first_unlike, BP.f_repeat_state, BP.f_exchange_state, BP.f_back_state, BP.f_loses_nothing, BP.f_is_reversible, BP.f_operations_of, BP.f_way_back, BP.f_is_ascending, BP.f_is_step, BP.f_is_plan, BP.f_check_plan, BP.f_calls_of, BP.f_is_call, BP.f_check_guards, BP.f_check_start, BP.f_all_guards, BP.f_goal_of, BP.f_goal, BP.f_outcomes_of, BP.f_taking_back, BP.f_next_of, BP.f_has_effect, BP.f_called, BP.f_moved, BP.f_is_good_end, BP.f_found_ends, BP.f_are_good, BP.f_ends_clean, BP.f_bad_starts, BP.f_is_event, BP.f_followed, BP.f_is_run, BP.f_run_end, BP.f_bad_run, BP.f_ends, BP.f_guards_in, BP.f_fewest_guards, BP.f_guards_for_all, BP.f_can_get_stuck, BP.f_in_order, BP.f_reordered, BP.f_orders_of, BP.f_same_goal, BP.f_goal_orders, BP.f_clean_orders, BP.f_is_settled, BP.f_law_is, BP.f_law_after, BP.f_law_states]
abbrev f_law_draw : List Int → Fun := drawF
abbrev fs61 : List (List Int → Fun) := [BP.f_is_between, BP.f_check_items, BP.f_is_state_of, BP.f_is_operation, BP.f_is_action_of, BP.f_check_action, BP.f_applied, BP.f_after, BP.f_states_of, BP.f_all_states, BP.f_first_unlike, BP.f_repeat_state, BP.f_exchange_state, BP.f_back_state, BP.f_loses_nothing, BP.f_is_reversible, BP.f_operations_of, BP.f_way_back, BP.f_is_ascending, BP.f_is_step, BP.f_is_plan, BP.f_check_plan, BP.f_calls_of, BP.f_is_call, BP.f_check_guards, BP.f_check_start, BP.f_all_guards, BP.f_goal_of, BP.f_goal, BP.f_outcomes_of, BP.f_taking_back, BP.f_next_of, BP.f_has_effect, BP.f_called, BP.f_moved, BP.f_is_good_end, BP.f_found_ends, BP.f_are_good, BP.f_ends_clean, BP.f_bad_starts, BP.f_is_event, BP.f_followed, BP.f_is_run, BP.f_run_end, BP.f_bad_run, BP.f_ends, BP.f_guards_in, BP.f_fewest_guards, BP.f_guards_for_all, BP.f_can_get_stuck, BP.f_in_order, BP.f_reordered, BP.f_orders_of, BP.f_same_goal, BP.f_goal_orders, BP.f_clean_orders, BP.f_is_settled, BP.f_law_is, BP.f_law_after, BP.f_law_states, BP.f_law_draw]
abbrev n_law_action : List Str := ["_law_script", "_law_town", "_law_items", "_law_found", "_law_k", "_law_way", "_law_item", "_law_other"]
abbrev p_law_action : List Str := ["_law_script", "_law_town", "_law_items"]
abbrev c_law_action : CF := ⟨3, 8,
    (.cons (.asg (.v 3) (.tup .nil))
    (.cons (.for (.v 4) (.rng (.call 60 (.cons (.var 0) (.cons (.var 1) (.cons (.cst (PyData.int 4)) .nil)))))
    (.cons (.par [(false, 5), (false, 6)] (.cons (.call 60 (.cons (.var 0) (.cons (.var 1) (.cons (.cst (PyData.int 4)) .nil)))) (.cons (.call 60 (.cons (.var 0) (.cons (.var 1) (.cons (.var 2) .nil)))) .nil)))
    (.cons (.iff (.cmp .lt (.var 5) (.cst (PyData.int 2)))
    (.cons (.asg (.v 3) (.bin .add (.var 3) (.tup (.cons (.tup (.cons (.cst (PyData.str ("add" : Str))) (.cons (.var 6) (.cons (.bin .add (.cst (PyData.int 1)) (.call 60 (.cons (.var 0) (.cons (.var 1) (.cons (.cst (PyData.int 2)) .nil))))) .nil)))) .nil))))
    .nil)
    (.cons (.iff (.or (.cons (.cmp .eq (.var 5) (.cst (PyData.int 2))) (.cons (.cmp .eq (.var 2) (.cst (PyData.int 1))) .nil)))
    (.cons (.asg (.v 3) (.bin .add (.var 3) (.tup (.cons (.tup (.cons (.cst (PyData.str ("set" : Str))) (.cons (.var 6) (.cons (.call 60 (.cons (.var 0) (.cons (.var 1) (.cons (.cst (PyData.int 3)) .nil)))) .nil)))) .nil))))
    .nil)
    (.cons (.asg (.v 7) (.bin .add (.bin .add (.var 6) (.cst (PyData.int 1))) (.call 60 (.cons (.var 0) (.cons (.var 1) (.cons (.bin .sub (.var 2) (.cst (PyData.int 1))) .nil))))))
    (.cons (.asg (.v 3) (.bin .add (.var 3) (.tup (.cons (.tup (.cons (.cst (PyData.str ("copy" : Str))) (.cons (.var 6) (.cons (.bin .mod (.var 7) (.var 2)) .nil)))) .nil))))
    .nil)))
    .nil))
    .nil)))
    (.cons (.ret (.var 3))
    .nil)))⟩
@[irreducible] def f_law_action (scr : List Int) : Fun := runF (callD fs61 scr) 100000 c_law_action
theorem u_law_action : f_law_action = fun scr => runF (callD fs61 scr) 100000 c_law_action := by
  unfold f_law_action
  rfl
theorem cd_61_60 (scr : List Int) : callD fs61 scr 60 = BP.f_law_draw scr := rfl
abbrev fs62 : List (List Int → Fun) := [BP.f_is_between, BP.f_check_items, BP.f_is_state_of, BP.f_is_operation, BP.f_is_action_of, BP.f_check_action, BP.f_applied, BP.f_after, BP.f_states_of, BP.f_all_states, BP.f_first_unlike, BP.f_repeat_state, BP.f_exchange_state, BP.f_back_state, BP.f_loses_nothing, BP.f_is_reversible, BP.f_operations_of, BP.f_way_back, BP.f_is_ascending, BP.f_is_step, BP.f_is_plan, BP.f_check_plan, BP.f_calls_of, BP.f_is_call, BP.f_check_guards, BP.f_check_start, BP.f_all_guards, BP.f_goal_of, BP.f_goal, BP.f_outcomes_of, BP.f_taking_back, BP.f_next_of, BP.f_has_effect, BP.f_called, BP.f_moved, BP.f_is_good_end, BP.f_found_ends, BP.f_are_good, BP.f_ends_clean, BP.f_bad_starts, BP.f_is_event, BP.f_followed, BP.f_is_run, BP.f_run_end, BP.f_bad_run, BP.f_ends, BP.f_guards_in, BP.f_fewest_guards, BP.f_guards_for_all, BP.f_can_get_stuck, BP.f_in_order, BP.f_reordered, BP.f_orders_of, BP.f_same_goal, BP.f_goal_orders, BP.f_clean_orders, BP.f_is_settled, BP.f_law_is, BP.f_law_after, BP.f_law_states, BP.f_law_draw, BP.f_law_action]
abbrev n_law_plan : List Str := ["_law_script", "_law_town", "_law_items", "_law_found", "_law_k", "_law_action_here", "_law_back", "_law_one"]
abbrev p_law_plan : List Str := ["_law_script", "_law_town"]
abbrev c_law_plan : CF := ⟨2, 8,
    (.cons (.par [(false, 2), (true, 3)] (.cons (.bin .add (.bin .add (.cst (PyData.int 1)) (.call 60 (.cons (.var 0) (.cons (.var 1) (.cons (.cst (PyData.int 2)) .nil))))) (.call 60 (.cons (.var 0) (.cons (.var 1) (.cons (.cst (PyData.int 2)) .nil))))) (.cons (.lst .nil) .nil)))
    (.cons (.for (.v 4) (.rng (.bin .add (.cst (PyData.int 1)) (.call 60 (.cons (.var 0) (.cons (.var 1) (.cons (.cst (PyData.int 3)) .nil))))))
    (.cons (.asg (.v 5) (.call 61 (.cons (.var 0) (.cons (.var 1) (.cons (.var 2) .nil)))))
    (.cons (.iff (.cmp .gt (.call 60 (.cons (.var 0) (.cons (.var 1) (.cons (.cst (PyData.int 3)) .nil)))) (.cst (PyData.int 0)))
    (.cons (.asg (.v 5) (.slH (.p1 .tuple (.lc [7] (.v 7) (.seq (.var 5)) (.tup (.cons (.cst (PyData.str ("add" : Str))) (.cons (.idx (.var 7) (.cst (PyData.int 1))) (.cons (.bin .add (.cst (PyData.int 1)) (.bin .mod (.idx (.var 7) (.cst (PyData.int 2))) (.cst (PyData.int 2)))) .nil)))))) (.cst (PyData.int 2))))
    .nil)
    .nil)
    (.cons (.asg (.v 6) (.slR (.p1 .tuple (.lc [7] (.v 7) (.seq (.var 5)) (.tup (.cons (.idx (.var 7) (.cst (PyData.int 0))) (.cons (.idx (.var 7) (.cst (PyData.int 1))) (.cons (.ite (.cmp .eq (.idx (.var 7) (.cst (PyData.int 0))) (.cst (PyData.str ("add" : Str)))) (.bin .sub (.cst (PyData.int 3)) (.idx (.var 7) (.cst (PyData.int 2)))) (.idx (.var 7) (.cst (PyData.int 2)))) .nil))))))))
    (.cons (.iff (.cmp .eq (.call 60 (.cons (.var 0) (.cons (.var 1) (.cons (.cst (PyData.int 8)) .nil)))) (.cst (PyData.int 0)))
    (.cons (.asg (.v 6) (.ite (.cmp .eq (.call 60 (.cons (.var 0) (.cons (.var 1) (.cons (.cst (PyData.int 2)) .nil)))) (.cst (PyData.int 0))) (.cst PyData.none) (.call 61 (.cons (.var 0) (.cons (.var 1) (.cons (.var 2) .nil))))))
    .nil)
    .nil)
    (.cons (.app 3 (.tup (.cons (.var 5) (.cons (.var 6) (.cons (.cmp .eq (.call 60 (.cons (.var 0) (.cons (.var 1) (.cons (.cst (PyData.int 3)) .nil)))) (.cst (PyData.int 0))) .nil)))))
    .nil))))))
    (.cons (.ret (.tup (.cons (.var 2) (.cons (.p1 .tuple (.var 3)) (.cons (.idx (.tup (.cons (.cst (PyData.str ("again" : Str))) (.cons (.cst (PyData.str ("back" : Str))) .nil))) (.call 60 (.cons (.var 0) (.cons (.var 1) (.cons (.cst (PyData.int 2)) .nil))))) .nil)))))
    .nil)))⟩
@[irreducible] def f_law_plan (scr : List Int) : Fun := runF (callD fs62 scr) 100000 c_law_plan
theorem u_law_plan : f_law_plan = fun scr => runF (callD fs62 scr) 100000 c_law_plan := by
  unfold f_law_plan
  rfl
theorem cd_62_60 (scr : List Int) : callD fs62 scr 60 = BP.f_law_draw scr := rfl
theorem cd_62_61 (scr : List Int) : callD fs62 scr 61 = BP.f_law_action scr := rfl
abbrev fs63 : List (List Int → Fun) := [BP.f_is_between, BP.f_check_items, BP.f_is_state_of, BP.f_is_operation, BP.f_is_action_of, BP.f_check_action, BP.f_applied, BP.f_after, BP.f_states_of, BP.f_all_states, BP.f_first_unlike, BP.f_repeat_state, BP.f_exchange_state, BP.f_back_state, BP.f_loses_nothing, BP.f_is_reversible, BP.f_operations_of, BP.f_way_back, BP.f_is_ascending, BP.f_is_step, BP.f_is_plan, BP.f_check_plan, BP.f_calls_of, BP.f_is_call, BP.f_check_guards, BP.f_check_start, BP.f_all_guards, BP.f_goal_of, BP.f_goal, BP.f_outcomes_of, BP.f_taking_back, BP.f_next_of, BP.f_has_effect, BP.f_called, BP.f_moved, BP.f_is_good_end, BP.f_found_ends, BP.f_are_good, BP.f_ends_clean, BP.f_bad_starts, BP.f_is_event, BP.f_followed, BP.f_is_run, BP.f_run_end, BP.f_bad_run, BP.f_ends, BP.f_guards_in, BP.f_fewest_guards, BP.f_guards_for_all, BP.f_can_get_stuck, BP.f_in_order, BP.f_reordered, BP.f_orders_of, BP.f_same_goal, BP.f_goal_orders, BP.f_clean_orders, BP.f_is_settled, BP.f_law_is, BP.f_law_after, BP.f_law_states, BP.f_law_draw, BP.f_law_action, BP.f_law_plan]
abbrev n_law_calls : List Str := ["_law_plan_here", "_law_backs", "_law_at", "_law_step"]
abbrev p_law_calls : List Str := ["_law_plan_here"]
abbrev c_law_calls : CF := ⟨1, 4,
    (.cons (.asg (.v 1) (.lcIf [2, 3] (.t [(.v 2), (.v 3)]) (.enum (.idx (.var 0) (.cst (PyData.int 1)))) (.notN (.idx (.var 3) (.cst (PyData.int 1)))) (.tup (.cons (.cst (PyData.str ("back" : Str))) (.cons (.var 2) .nil)))))
    (.cons (.ret (.p1 .tuple (.bin .add (.var 1) (.lc [2] (.v 2) (.rng (.p1 .len (.idx (.var 0) (.cst (PyData.int 1))))) (.tup (.cons (.cst (PyData.str ("do" : Str))) (.cons (.var 2) .nil)))))))
    .nil))⟩
@[irreducible] def f_law_calls (scr : List Int) : Fun := runF (callD fs63 scr) 100000 c_law_calls
theorem u_law_calls : f_law_calls = fun scr => runF (callD fs63 scr) 100000 c_law_calls := by
  unfold f_law_calls
  rfl
abbrev fs64 : List (List Int → Fun) := [BP.f_is_between, BP.f_check_items, BP.f_is_state_of, BP.f_is_operation, BP.f_is_action_of, BP.f_check_action, BP.f_applied, BP.f_after, BP.f_states_of, BP.f_all_states, BP.f_first_unlike, BP.f_repeat_state, BP.f_exchange_state, BP.f_back_state, BP.f_loses_nothing, BP.f_is_reversible, BP.f_operations_of, BP.f_way_back, BP.f_is_ascending, BP.f_is_step, BP.f_is_plan, BP.f_check_plan, BP.f_calls_of, BP.f_is_call, BP.f_check_guards, BP.f_check_start, BP.f_all_guards, BP.f_goal_of, BP.f_goal, BP.f_outcomes_of, BP.f_taking_back, BP.f_next_of, BP.f_has_effect, BP.f_called, BP.f_moved, BP.f_is_good_end, BP.f_found_ends, BP.f_are_good, BP.f_ends_clean, BP.f_bad_starts, BP.f_is_event, BP.f_followed, BP.f_is_run, BP.f_run_end, BP.f_bad_run, BP.f_ends, BP.f_guards_in, BP.f_fewest_guards, BP.f_guards_for_all, BP.f_can_get_stuck, BP.f_in_order, BP.f_reordered, BP.f_orders_of, BP.f_same_goal, BP.f_goal_orders, BP.f_clean_orders, BP.f_is_settled, BP.f_law_is, BP.f_law_after, BP.f_law_states, BP.f_law_draw, BP.f_law_action, BP.f_law_plan, BP.f_law_calls]
abbrev n_law_guards : List Str := ["_law_script", "_law_town", "_law_plan_here", "_law_call"]
abbrev p_law_guards : List Str := ["_law_script", "_law_town", "_law_plan_here"]
abbrev c_law_guards : CF := ⟨3, 4,
    (.cons (.ret (.p1 .tuple (.lcIf [3] (.v 3) (.seq (.call 63 (.cons (.var 2) .nil))) (.cmp .eq (.call 60 (.cons (.var 0) (.cons (.var 1) (.cons (.cst (PyData.int 2)) .nil)))) (.cst (PyData.int 0))) (.var 3))))
    .nil)⟩
@[irreducible] def f_law_guards (scr : List Int) : Fun := runF (callD fs64 scr) 100000 c_law_guards
theorem u_law_guards : f_law_guards = fun scr => runF (callD fs64 scr) 100000 c_law_guards := by
  unfold f_law_guards
  rfl
theorem cd_64_60 (scr : List Int) : callD fs64 scr 60 = BP.f_law_draw scr := rfl
theorem cd_64_63 (scr : List Int) : callD fs64 scr 63 = BP.f_law_calls scr := rfl
abbrev fs65 : List (List Int → Fun) := [BP.f_is_between, BP.f_check_items, BP.f_is_state_of, BP.f_is_operation, BP.f_is_action_of, BP.f_check_action, BP.f_applied, BP.f_after, BP.f_states_of, BP.f_all_states, BP.f_first_unlike, BP.f_repeat_state, BP.f_exchange_state, BP.f_back_state, BP.f_loses_nothing, BP.f_is_reversible, BP.f_operations_of, BP.f_way_back, BP.f_is_ascending, BP.f_is_step, BP.f_is_plan, BP.f_check_plan, BP.f_calls_of, BP.f_is_call, BP.f_check_guards, BP.f_check_start, BP.f_all_guards, BP.f_goal_of, BP.f_goal, BP.f_outcomes_of, BP.f_taking_back, BP.f_next_of, BP.f_has_effect, BP.f_called, BP.f_moved, BP.f_is_good_end, BP.f_found_ends, BP.f_are_good, BP.f_ends_clean, BP.f_bad_starts, BP.f_is_event, BP.f_followed, BP.f_is_run, BP.f_run_end, BP.f_bad_run, BP.f_ends, BP.f_guards_in, BP.f_fewest_guards, BP.f_guards_for_all, BP.f_can_get_stuck, BP.f_in_order, BP.f_reordered, BP.f_orders_of, BP.f_same_goal, BP.f_goal_orders, BP.f_clean_orders, BP.f_is_settled, BP.f_law_is, BP.f_law_after, BP.f_law_states, BP.f_law_draw, BP.f_law_action, BP.f_law_plan, BP.f_law_calls, BP.f_law_guards]
abbrev n_law_start : List Str := ["_law_script", "_law_town", "_law_plan_here", "_law_item"]
abbrev p_law_start : List Str := ["_law_script", "_law_town", "_law_plan_here"]
abbrev c_law_start : CF := ⟨3, 4,
    (.cons (.ret (.p1 .tuple (.lc [3] (.v 3) (.rng (.idx (.var 2) (.cst (PyData.int 0)))) (.call 60 (.cons (.var 0) (.cons (.var 1) (.cons (.cst (PyData.int 3)) .nil)))))))
    .nil)⟩
@[irreducible] def f_law_start (scr : List Int) : Fun := runF (callD fs65 scr) 100000 c_law_start
theorem u_law_start : f_law_start = fun scr => runF (callD fs65 scr) 100000 c_law_start := by
  unfold f_law_start
  rfl
theorem cd_65_60 (scr : List Int) : callD fs65 scr 60 = BP.f_law_draw scr := rfl
abbrev fs66 : List (List Int → Fun) := [BP.f_is_between, BP.f_check_items, BP.f_is_state_of, BP.f_is_operation, BP.f_is_action_of, BP.f_check_action, BP.f_applied, BP.f_after, BP.f_states_of, BP.f_all_states, BP.f_first_unlike, BP.f_repeat_state, BP.f_exchange_state, BP.f_back_state, BP.f_loses_nothing, BP.f_is_reversible, BP.f_operations_of, BP.f_way_back, BP.f_is_ascending, BP.f_is_step, BP.f_is_plan, BP.f_check_plan, BP.f_calls_of, BP.f_is_call, BP.f_check_guards, BP.f_check_start, BP.f_all_guards, BP.f_goal_of, BP.f_goal, BP.f_outcomes_of, BP.f_taking_back, BP.f_next_of, BP.f_has_effect, BP.f_called, BP.f_moved, BP.f_is_good_end, BP.f_found_ends, BP.f_are_good, BP.f_ends_clean, BP.f_bad_starts, BP.f_is_event, BP.f_followed, BP.f_is_run, BP.f_run_end, BP.f_bad_run, BP.f_ends, BP.f_guards_in, BP.f_fewest_guards, BP.f_guards_for_all, BP.f_can_get_stuck, BP.f_in_order, BP.f_reordered, BP.f_orders_of, BP.f_same_goal, BP.f_goal_orders, BP.f_clean_orders, BP.f_is_settled, BP.f_law_is, BP.f_law_after, BP.f_law_states, BP.f_law_draw, BP.f_law_action, BP.f_law_plan, BP.f_law_calls, BP.f_law_guards, BP.f_law_start]
abbrev n_law_back_from : List Str := ["_law_plan_here", "_law_at"]
abbrev p_law_back_from : List Str := ["_law_plan_here", "_law_at"]
abbrev c_law_back_from : CF := ⟨2, 2,
    (.cons (.iff (.cmp .lt (.var 1) (.cst (PyData.int 0)))
    (.cons (.ret (.cst (PyData.str ("undone" : Str))))
    .nil)
    .nil)
    (.cons (.ret (.ite (.isN (.idx (.idx (.idx (.var 0) (.cst (PyData.int 1))) (.var 1)) (.cst (PyData.int 1)))) (.cst (PyData.str ("stuck" : Str))) (.tup (.cons (.cst (PyData.str ("back" : Str))) (.cons (.var 1) .nil)))))
    .nil))⟩
@[irreducible] def f_law_back_from (scr : List Int) : Fun := runF (callD fs66 scr) 100000 c_law_back_from
theorem u_law_back_from : f_law_back_from = fun scr => runF (callD fs66 scr) 100000 c_law_back_from := by
  unfold f_law_back_from
  rfl
abbrev fs67 : List (List Int → Fun) := [BP.f_is_between, BP.f_check_items, BP.f_is_state_of, BP.f_is_operation, BP.f_is_action_of, BP.f_check_action, BP.f_applied, BP.f_after, BP.f_states_of, BP.f_all_states, BP.f_first_unlike, BP.f_repeat_state, BP.f_exchange_state, BP.f_back_state, BP.f_loses_nothing, BP.f_is_reversible, BP.f_operations_of, BP.f_way_back, BP.f_is_ascending, BP.f_is_step, BP.f_is_plan, BP.f_check_plan, BP.f_calls_of, BP.f_is_call, BP.f_check_guards, BP.f_check_start, BP.f_all_guards, BP.f_goal_of, BP.f_goal, BP.f_outcomes_of, BP.f_taking_back, BP.f_next_of, BP.f_has_effect, BP.f_called, BP.f_moved, BP.f_is_good_end, BP.f_found_ends, BP.f_are_good, BP.f_ends_clean, BP.f_bad_starts, BP.f_is_event, BP.f_followed, BP.f_is_run, BP.f_run_end, BP.f_bad_run, BP.f_ends, BP.f_guards_in, BP.f_fewest_guards, BP.f_guards_for_all, BP.f_can_get_stuck, BP.f_in_order, BP.f_reordered, BP.f_orders_of, BP.f_same_goal, BP.f_goal_orders, BP.f_clean_orders, BP.f_is_settled, BP.f_law_is, BP.f_law_after, BP.f_law_states, BP.f_law_draw, BP.f_law_action, BP.f_law_plan, BP.f_law_calls, BP.f_law_guards, BP.f_law_start, BP.f_law_back_from]
abbrev n_law_moves : List Str := ["_law_plan_here", "_law_guards_here", "_law_here", "_law_made", "_law_state", "_law_kind", "_law_at", "_law_step", "_law_there", "_law_done", "_law_unsure", "_law_later", "_law_found"]
abbrev p_law_moves : List Str := ["_law_plan_here", "_law_guards_here", "_law_here", "_law_made", "_law_state"]
abbrev c_law_moves : CF := ⟨5, 13,
    (.cons (.asg (.t [(.v 5), (.v 6)]) (.var 2))
    (.cons (.asg (.v 7) (.idx (.idx (.var 0) (.cst (PyData.int 1))) (.var 6)))
    (.cons (.par [(false, 8), (false, 9)] (.cons (.var 4) (.cons (.ssort (.bin .add (.var 3) (.lst (.cons (.var 2) .nil)))) .nil)))
    (.cons (.iff (.or (.cons (.cmp .notin (.var 2) (.var 1)) (.cons (.and (.cons (.cmp .notin (.var 2) (.var 3)) (.cons (.or (.cons (.cmp .eq (.var 5) (.cst (PyData.str ("do" : Str)))) (.cons (.cmp .isin (.tup (.cons (.cst (PyData.str ("do" : Str))) (.cons (.var 6) .nil))) (.var 3)) .nil))) .nil))) .nil)))
    (.cons (.asg (.v 8) (.call 58 (.cons (.ite (.cmp .eq (.var 5) (.cst (PyData.str ("do" : Str)))) (.idx (.var 7) (.cst (PyData.int 0))) (.idx (.var 7) (.cst (PyData.int 1)))) (.cons (.var 4) .nil))))
    .nil)
    .nil)
    (.cons (.par [(false, 10), (false, 11)] (.cons (.var 2) (.cons (.call 66 (.cons (.var 0) (.cons (.bin .sub (.var 6) (.cst (PyData.int 1))) .nil))) .nil)))
    (.cons (.iff (.cmp .eq (.var 5) (.cst (PyData.str ("do" : Str))))
    (.cons (.asg (.v 10) (.ite (.cmp .eq (.idx (.var 0) (.cst (PyData.int 2))) (.cst (PyData.str ("again" : Str)))) (.var 2) (.call 66 (.cons (.var 0) (.cons (.var 6) .nil)))))
    (.cons (.asg (.v 11) (.ite (.cmp .lt (.bin .add (.var 6) (.cst (PyData.int 1))) (.p1 .len (.idx (.var 0) (.cst (PyData.int 1))))) (.tup (.cons (.cst (PyData.str ("do" : Str))) (.cons (.bin .add (.var 6) (.cst (PyData.int 1))) .nil))) (.cst (PyData.str ("done" : Str)))))
    .nil))
    .nil)
    (.cons (.own 12 (.lst (.cons (.tup (.cons (.cst (PyData.str ("lost" : Str))) (.cons (.var 10) (.cons (.var 9) (.cons (.var 8) .nil))))) (.cons (.tup (.cons (.cst (PyData.str ("missed" : Str))) (.cons (.var 10) (.cons (.var 3) (.cons (.var 4) .nil))))) (.cons (.tup (.cons (.cst (PyData.str ("ok" : Str))) (.cons (.var 11) (.cons (.var 9) (.cons (.var 8) .nil))))) .nil)))))
    (.cons (.iff (.and (.cons (.cmp .eq (.var 5) (.cst (PyData.str ("do" : Str)))) (.cons (.idx (.var 7) (.cst (PyData.int 2))) (.cons (.not (.and (.cons (.cmp .isin (.var 2) (.var 1)) (.cons (.cmp .isin (.var 2) (.var 3)) .nil)))) .nil))))
    (.cons (.app 12 (.tup (.cons (.cst (PyData.str ("refused" : Str))) (.cons (.call 66 (.cons (.var 0) (.cons (.bin .sub (.var 6) (.cst (PyData.int 1))) .nil))) (.cons (.var 3) (.cons (.var 4) .nil))))))
    .nil)
    .nil)
    (.cons (.frz [12])
    (.cons (.ret (.var 12))
    .nil))))))))))⟩
@[irreducible] def f_law_moves (scr : List Int) : Fun := runF (callD fs67 scr) 100000 c_law_moves
theorem u_law_moves : f_law_moves = fun scr => runF (callD fs67 scr) 100000 c_law_moves := by
  unfold f_law_moves
  rfl
theorem cd_67_58 (scr : List Int) : callD fs67 scr 58 = BP.f_law_after scr := rfl
theorem cd_67_66 (scr : List Int) : callD fs67 scr 66 = BP.f_law_back_from scr := rfl
abbrev fs68 : List (List Int → Fun) := [BP.f_is_between, BP.f_check_items, BP.f_is_state_of, BP.f_is_operation, BP.f_is_action_of, BP.f_check_action, BP.f_applied, BP.f_after, BP.f_states_of, BP.f_all_states, BP.f_first_unlike, BP.f_repeat_state, BP.f_exchange_state, BP.f_back_state, BP.f_loses_nothing, BP.f_is_reversible, BP.f_operations_of, BP.f_way_back, BP.f_is_ascending, BP.f_is_step, BP.f_is_plan, BP.f_check_plan, BP.f_calls_of, BP.f_is_call, BP.f_check_guards, BP.f_check_start, BP.f_all_guards, BP.f_goal_of, BP.f_goal, BP.f_outcomes_of, BP.f_taking_back, BP.f_next_of, BP.f_has_effect, BP.f_called, BP.f_moved, BP.f_is_good_end, BP.f_found_ends, BP.f_are_good, BP.f_ends_clean, BP.f_bad_starts, BP.f_is_event, BP.f_followed, BP.f_is_run, BP.f_run_end, BP.f_bad_run, BP.f_ends, BP.f_guards_in, BP.f_fewest_guards, BP.f_guards_for_all, BP.f_can_get_stuck, BP.f_in_order, BP.f_reordered, BP.f_orders_of, BP.f_same_goal, BP.f_goal_orders, BP.f_clean_orders, BP.f_is_settled, BP.f_law_is, BP.f_law_after, BP.f_law_states, BP.f_law_draw, BP.f_law_action, BP.f_law_plan, BP.f_law_calls, BP.f_law_guards, BP.f_law_start, BP.f_law_back_from, BP.f_law_moves]
abbrev n_law_ends : List Str := ["_law_plan_here", "_law_guards_here", "_law_begin", "_law_level", "_law_known", "_law_found", "_law_many", "_law_further", "_law_here", "_law_made", "_law_state", "_law_move", "_law_there"]
abbrev p_law_ends : List Str := ["_law_plan_here", "_law_guards_here", "_law_begin"]
abbrev c_law_ends : CF := ⟨3, 13,
    (.cons (.asg (.t [(.v 3), (.v 4), (.v 5), (.v 6)]) (.tup (.cons (.lst (.cons (.tup (.cons (.tup (.cons (.cst (PyData.str ("do" : Str))) (.cons (.cst (PyData.int 0)) .nil))) (.cons (.lst .nil) (.cons (.var 2) .nil)))) .nil)) (.cons (.lst .nil) (.cons .dnew (.cons (.cst (PyData.int 0)) .nil))))))
    (.cons (.whl (.cmp .ne (.var 3) (.lst .nil))
    (.cons (.par [(true, 7), (false, 6)] (.cons (.lst .nil) (.cons (.bin .add (.var 6) (.cst (PyData.int 1))) .nil)))
    (.cons (.for (.t [(.v 8), (.v 9), (.v 10)]) (.seq (.var 3))
    (.cons (.for (.v 11) (.seq (.call 67 (.cons (.var 0) (.cons (.var 1) (.cons (.var 8) (.cons (.var 9) (.cons (.var 10) .nil)))))))
    (.cons (.asg (.v 12) (.slL (.var 11) (.cst (PyData.int 1))))
    (.cons (.iff (.isi (.idx (.var 12) (.cst (PyData.int 0))) .str)
    (.cons (.sto 5 (.tup (.cons (.idx (.var 12) (.cst (PyData.int 0))) (.cons (.idx (.var 12) (.cst (PyData.int 2))) .nil))) (.dget (.var 5) (.tup (.cons (.idx (.var 12) (.cst (PyData.int 0))) (.cons (.idx (.var 12) (.cst (PyData.int 2))) .nil))) (.var 6)))
    .nil)
    (.cons (.iff (.cmp .notin (.var 12) (.var 4))
    (.cons (.app 4 (.var 12))
    (.cons (.app 7 (.var 12))
    .nil))
    .nil)
    .nil))
    .nil)))
    .nil))
    (.cons (.frz [7])
    (.cons (.asg (.v 3) (.var 7))
    .nil)))))
    (.cons (.frz [5])
    (.cons (.ret (.var 5))
    .nil))))⟩
@[irreducible] def f_law_ends (scr : List Int) : Fun := runF (callD fs68 scr) 100000 c_law_ends
theorem u_law_ends : f_law_ends = fun scr => runF (callD fs68 scr) 100000 c_law_ends := by
  unfold f_law_ends
  rfl
theorem cd_68_67 (scr : List Int) : callD fs68 scr 67 = BP.f_law_moves scr := rfl
abbrev fs69 : List (List Int → Fun) := [BP.f_is_between, BP.f_check_items, BP.f_is_state_of, BP.f_is_operation, BP.f_is_action_of, BP.f_check_action, BP.f_applied, BP.f_after, BP.f_states_of, BP.f_all_states, BP.f_first_unlike, BP.f_repeat_state, BP.f_exchange_state, BP.f_back_state, BP.f_loses_nothing, BP.f_is_reversible, BP.f_operations_of, BP.f_way_back, BP.f_is_ascending, BP.f_is_step, BP.f_is_plan, BP.f_check_plan, BP.f_calls_of, BP.f_is_call, BP.f_check_guards, BP.f_check_start, BP.f_all_guards, BP.f_goal_of, BP.f_goal, BP.f_outcomes_of, BP.f_taking_back, BP.f_next_of, BP.f_has_effect, BP.f_called, BP.f_moved, BP.f_is_good_end, BP.f_found_ends, BP.f_are_good, BP.f_ends_clean, BP.f_bad_starts, BP.f_is_event, BP.f_followed, BP.f_is_run, BP.f_run_end, BP.f_bad_run, BP.f_ends, BP.f_guards_in, BP.f_fewest_guards, BP.f_guards_for_all, BP.f_can_get_stuck, BP.f_in_order, BP.f_reordered, BP.f_orders_of, BP.f_same_goal, BP.f_goal_orders, BP.f_clean_orders, BP.f_is_settled, BP.f_law_is, BP.f_law_after, BP.f_law_states, BP.f_law_draw, BP.f_law_action, BP.f_law_plan, BP.f_law_calls, BP.f_law_guards, BP.f_law_start, BP.f_law_back_from, BP.f_law_moves, BP.f_law_ends]
abbrev n_law_order : List Str := ["_law_script", "_law_town", "_law_many", "_law_rest", "_law_found", "_law_turn", "_law_at"]
abbrev p_law_order : List Str := ["_law_script", "_law_town", "_law_many"]
abbrev c_law_order : CF := ⟨3, 7,
    (.cons (.par [(false, 3), (true, 4)] (.cons (.lrng (.var 2)) (.cons (.lst .nil) .nil)))
    (.cons (.for (.v 5) (.rng (.var 2))
    (.cons (.asg (.v 6) (.call 60 (.cons (.var 0) (.cons (.var 1) (.cons (.p1 .len (.var 3)) .nil)))))
    (.cons (.app 4 (.idx (.var 3) (.var 6)))
    (.cons (.asg (.v 3) (.bin .add (.slH (.var 3) (.var 6)) (.slL (.var 3) (.bin .add (.var 6) (.cst (PyData.int 1))))))
    .nil))))
    (.cons (.ret (.p1 .tuple (.var 4)))
    .nil)))⟩
@[irreducible] def f_law_order (scr : List Int) : Fun := runF (callD fs69 scr) 100000 c_law_order
theorem u_law_order : f_law_order = fun scr => runF (callD fs69 scr) 100000 c_law_order := by
  unfold f_law_order
  rfl
theorem cd_69_60 (scr : List Int) : callD fs69 scr 60 = BP.f_law_draw scr := rfl
end BP
set_option Elab.async false
set_option linter.all false
set_option maxRecDepth 100000
set_option maxHeartbeats 4000000
namespace K01
open PySem BK L2 BP
def top (i : Nat) : Stmt := PySem.Challenge.pw_backsteps_k01_not_actions.main.body.getD i (.Pass ⟨0, 0, 0, 0⟩)
abbrev CN : List (Str × PyData) := []
abbrev KW : List (Nat × Nat × List Str) := [(7, 1, [("action" : Str), ("state" : Str)]), (9, 0, [("items" : Str)]), (70, 1, [("value" : Str)]), (71, 0, [("items" : Str), ("value" : Str)])]
abbrev EX : List Nat := [0, 1, 2]
abbrev nms0 : List Str := []
abbrev s_is_between : Stmt := top 15
theorem k_is_between : ckSs ⟨n_is_between, nms0, CN, KW, EX, fun _ _ _ => false⟩ (defScope s_is_between) c_is_between.body (defBody s_is_between) = true := by decide +kernel
theorem sc_is_between : FnScope n_is_between p_is_between (defScope s_is_between) := ⟨rfl, rfl, rfl, by decide +kernel, rfl, by decide +kernel, by decide +kernel⟩
abbrev nms1 : List Str := nms0 ++ [("is_between" : Str)]
abbrev s_check_items : Stmt := top 16
theorem k_check_items : ckSs ⟨n_check_items, nms1, CN, KW, EX, fun _ _ _ => false⟩ (defScope s_check_items) c_check_items.body (defBody s_check_items) = true := by decide +kernel
theorem sc_check_items : FnScope n_check_items p_check_items (defScope s_check_items) := ⟨rfl, rfl, rfl, by decide +kernel, rfl, by decide +kernel, by decide +kernel⟩
abbrev nms2 : List Str := nms1 ++ [("check_items" : Str)]
abbrev s_is_state_of : Stmt := top 17
theorem k_is_state_of : ckSs ⟨n_is_state_of, nms2, CN, KW, EX, fun _ _ _ => false⟩ (defScope s_is_state_of) c_is_state_of.body (defBody s_is_state_of) = true := by decide +kernel
theorem sc_is_state_of : FnScope n_is_state_of p_is_state_of (defScope s_is_state_of) := ⟨rfl, rfl, rfl, by decide +kernel, rfl, by decide +kernel, by decide +kernel⟩
abbrev nms3 : List Str := nms2 ++ [("is_state_of" : Str)]
abbrev s_is_operation : Stmt := top 19
theorem k_is_operation : ckSs ⟨n_is_operation, nms3, CN, KW, EX, fun _ _ _ => false⟩ (defScope s_is_operation) c_is_operation.body (defBody s_is_operation) = true := by decide +kernel
theorem sc_is_operation : FnScope n_is_operation p_is_operation (defScope s_is_operation) := ⟨rfl, rfl, rfl, by decide +kernel, rfl, by decide +kernel, by decide +kernel⟩
abbrev nms4 : List Str := nms3 ++ [("is_operation" : Str)]
abbrev s_is_action_of : Stmt := top 20
theorem k_is_action_of : ckSs ⟨n_is_action_of, nms4, CN, KW, EX, fun _ _ _ => false⟩ (defScope s_is_action_of) c_is_action_of.body (defBody s_is_action_of) = true := by decide +kernel
theorem sc_is_action_of : FnScope n_is_action_of p_is_action_of (defScope s_is_action_of) := ⟨rfl, rfl, rfl, by decide +kernel, rfl, by decide +kernel, by decide +kernel⟩
abbrev nms5 : List Str := nms4 ++ [("is_action_of" : Str)]
abbrev s_check_action : Stmt := top 22
theorem k_check_action : ckSs ⟨n_check_action, nms5, CN, KW, EX, fun _ _ _ => false⟩ (defScope s_check_action) c_check_action.body (defBody s_check_action) = true := by decide +kernel
theorem sc_check_action : FnScope n_check_action p_check_action (defScope s_check_action) := ⟨rfl, rfl, rfl, by decide +kernel, rfl, by decide +kernel, by decide +kernel⟩
abbrev nms6 : List Str := nms5 ++ [("check_action" : Str)]
abbrev s_applied : Stmt := top 23
theorem k_applied : ckSs ⟨n_applied, nms6, CN, KW, EX, fun _ _ _ => false⟩ (defScope s_applied) c_applied.body (defBody s_applied) = true := by decide +kernel
theorem sc_applied : FnScope n_applied p_applied (defScope s_applied) := ⟨rfl, rfl, rfl, by decide +kernel, rfl, by decide +kernel, by decide +kernel⟩
abbrev nms7 : List Str := nms6 ++ [("applied" : Str)]
abbrev s_after : Stmt := top 24
theorem k_after : ckSs ⟨n_after, nms7, CN, KW, EX, fun _ _ _ => false⟩ (defScope s_after) c_after.body (defBody s_after) = true := by decide +kernel
theorem sc_after : FnScope n_after p_after (defScope s_after) := ⟨rfl, rfl, rfl, by decide +kernel, rfl, by decide +kernel, by decide +kernel⟩
abbrev nms8 : List Str := nms7 ++ [("after" : Str)]
abbrev s_states_of : Stmt := top 25
theorem k_states_of : ckSs ⟨n_states_of, nms8, CN, KW, EX, fun _ _ _ => false⟩ (defScope s_states_of) c_states_of.body (defBody s_states_of) = true := by decide +kernel
theorem sc_states_of : FnScope n_states_of p_states_of (defScope s_states_of) := ⟨rfl, rfl, rfl, by decide +kernel, rfl, by decide +kernel, by decide +kernel⟩
abbrev nms9 : List Str := nms8 ++ [("states_of" : Str)]
abbrev s_all_states : Stmt := top 26
theorem k_all_states : ckSs ⟨n_all_states, nms9, CN, KW, EX, fun _ _ _ => false⟩ (defScope s_all_states) c_all_states.body (defBody s_all_states) = true := by decide +kernel
theorem sc_all_states : FnScope n_all_states p_all_states (defScope s_all_states) := ⟨rfl, rfl, rfl, by decide +kernel, rfl, by decide +kernel, by decide +kernel⟩
abbrev nms10 : List Str := nms9 ++ [("all_states" : Str)]
abbrev nms11 : List Str := nms10 ++ [("" : Str)]
abbrev nms12 : List Str := nms11 ++ [("" : Str)]
abbrev nms13 : List Str := nms12 ++ [("" : Str)]
abbrev nms14 : List Str := nms13 ++ [("" : Str)]
abbrev nms15 : List Str := nms14 ++ [("" : Str)]
abbrev nms16 : List Str := nms15 ++ [("" : Str)]
abbrev nms17 : List Str := nms16 ++ [("" : Str)]
abbrev nms18 : List Str := nms17 ++ [("" : Str)]
abbrev nms19 : List Str := nms18 ++ [("" : Str)]
abbrev nms20 : List Str := nms19 ++ [("" : Str)]
abbrev nms21 : List Str := nms20 ++ [("" : Str)]
abbrev nms22 : List Str := nms21 ++ [("" : Str)]
abbrev nms23 : List Str := nms22 ++ [("" : Str)]
abbrev nms24 : List Str := nms23 ++ [("" : Str)]
abbrev nms25 : List Str := nms24 ++ [("" : Str)]
abbrev nms26 : List Str := nms25 ++ [("" : Str)]
abbrev nms27 : List Str := nms26 ++ [("" : Str)]
abbrev nms28 : List Str := nms27 ++ [("" : Str)]
abbrev nms29 : List Str := nms28 ++ [("" : Str)]
abbrev nms30 : List Str := nms29 ++ [("" : Str)]
abbrev nms31 : List Str := nms30 ++ [("" : Str)]
abbrev nms32 : List Str := nms31 ++ [("" : Str)]
abbrev nms33 : List Str := nms32 ++ [("" : Str)]
abbrev nms34 : List Str := nms33 ++ [("" : Str)]
abbrev nms35 : List Str := nms34 ++ [("" : Str)]
abbrev nms36 : List Str := nms35 ++ [("" : Str)]
abbrev nms37 : List Str := nms36 ++ [("" : Str)]
abbrev nms38 : List Str := nms37 ++ [("" : Str)]
abbrev nms39 : List Str := nms38 ++ [("" : Str)]
abbrev nms40 : List Str := nms39 ++ [("" : Str)]
abbrev nms41 : List Str := nms40 ++ [("" : Str)]
abbrev nms42 : List Str := nms41 ++ [("" : Str)]
abbrev nms43 : List Str := nms42 ++ [("" : Str)]
abbrev nms44 : List Str := nms43 ++ [("" : Str)]
abbrev nms45 : List Str := nms44 ++ [("" : Str)]
abbrev nms46 : List Str := nms45 ++ [("" : Str)]
abbrev nms47 : List Str := nms46 ++ [("" : Str)]
abbrev nms48 : List Str := nms47 ++ [("" : Str)]
abbrev nms49 : List Str := nms48 ++ [("" : Str)]
abbrev nms50 : List Str := nms49 ++ [("" : Str)]
abbrev nms51 : List Str := nms50 ++ [("" : Str)]
abbrev nms52 : List Str := nms51 ++ [("" : Str)]
abbrev nms53 : List Str := nms52 ++ [("" : Str)]
abbrev nms54 : List Str := nms53 ++ [("" : Str)]
abbrev nms55 : List Str := nms54 ++ [("" : Str)]
abbrev nms56 : List Str := nms55 ++ [("" : Str)]
abbrev nms57 : List Str := nms56 ++ [("" : Str)]
abbrev s_law_is : Stmt := top 29
theorem k_law_is : ckSs ⟨n_law_is, nms57, CN, KW, EX, fun _ _ _ => false⟩ (defScope s_law_is) c_law_is.body (defBody s_law_is) = true := by decide +kernel
theorem sc_law_is : FnScope n_law_is p_law_is (defScope s_law_is) := ⟨rfl, rfl, rfl, by decide +kernel, rfl, by decide +kernel, by decide +kernel⟩
abbrev nms58 : List Str := nms57 ++ [("_law_is" : Str)]
abbrev s_law_after : Stmt := top 30
abbrev n_law_after : List Str := [("_law_action_here" : Str), ("_law_state_here" : Str), ("_law_known" : Str), ("_law_name" : Str), ("_law_item" : Str), ("_law_value_here" : Str)]
abbrev p_law_after : List Str := [("_law_action_here" : Str), ("_law_state_here" : Str)]
theorem k_law_after : ckSs ⟨n_law_after, nms58, CN, KW, EX, fun _ _ _ => false⟩ (defScope s_law_after) c_law_after.body (defBody s_law_after) = true := by decide +kernel
theorem sc_law_after : FnScope n_law_after p_law_after (defScope s_law_after) := ⟨rfl, rfl, rfl, by decide +kernel, rfl, by decide +kernel, by decide +kernel⟩
abbrev nms59 : List Str := nms58 ++ [("_law_after" : Str)]
abbrev s_law_states : Stmt := top 31
theorem k_law_states : ckSs ⟨n_law_states, nms59, CN, KW, EX, fun _ _ _ => false⟩ (defScope s_law_states) c_law_states.body (defBody s_law_states) = true := by decide +kernel
theorem sc_law_states : FnScope n_law_states p_law_states (defScope s_law_states) := ⟨rfl, rfl, rfl, by decide +kernel, rfl, by decide +kernel, by decide +kernel⟩
abbrev nms60 : List Str := nms59 ++ [("_law_states" : Str)]
abbrev s_law_draw : Stmt := top 32
abbrev nms61 : List Str := nms60 ++ [("_law_draw" : Str)]
abbrev s_law_action : Stmt := top 34
abbrev n_law_action : List Str := [("_law_script" : Str), ("_law_town" : Str), ("_law_items_here" : Str), ("_law_found" : Str), ("_law_k" : Str), ("_law_way" : Str), ("_law_item" : Str), ("_law_other" : Str)]
abbrev p_law_action : List Str := [("_law_script" : Str), ("_law_town" : Str), ("_law_items_here" : Str)]
theorem k_law_action : ckSs ⟨n_law_action, nms61, CN, KW, EX, fun _ _ _ => false⟩ (defScope s_law_action) c_law_action.body (defBody s_law_action) = true := by decide +kernel
theorem sc_law_action : FnScope n_law_action p_law_action (defScope s_law_action) := ⟨rfl, rfl, rfl, by decide +kernel, rfl, by decide +kernel, by decide +kernel⟩
abbrev nms62 : List Str := nms61 ++ [("_law_action" : Str)]
abbrev nms63 : List Str := nms62 ++ [("" : Str)]
abbrev nms64 : List Str := nms63 ++ [("" : Str)]
abbrev nms65 : List Str := nms64 ++ [("" : Str)]
abbrev nms66 : List Str := nms65 ++ [("" : Str)]
abbrev nms67 : List Str := nms66 ++ [("" : Str)]
abbrev nms68 : List Str := nms67 ++ [("" : Str)]
abbrev nms69 : List Str := nms68 ++ [("" : Str)]
abbrev nms70 : List Str := nms69 ++ [("" : Str)]
abbrev s_is_state : Stmt := top 18
abbrev fs70 : List (List Int → Fun) := [BP.f_is_between, BP.f_check_items, BP.f_is_state_of, BP.f_is_operation, BP.f_is_action_of, BP.f_check_action, BP.f_applied, BP.f_after, BP.f_states_of, BP.f_all_states, BP.f_first_unlike, BP.f_repeat_state, BP.f_exchange_state, BP.f_back_state, BP.f_loses_nothing, BP.f_is_reversible, BP.f_operations_of, BP.f_way_back, BP.f_is_ascending, BP.f_is_step, BP.f_is_plan, BP.f_check_plan, BP.f_calls_of, BP.f_is_call, BP.f_check_guards, BP.f_check_start, BP.f_all_guards, BP.f_goal_of, BP.f_goal, BP.f_outcomes_of, BP.f_taking_back, BP.f_next_of, BP.f_has_effect, BP.f_called, BP.f_moved, BP.f_is_good_end, BP.f_found_ends, BP.f_are_good, BP.f_ends_clean, BP.f_bad_starts, BP.f_is_event, BP.f_followed, BP.f_is_run, BP.f_run_end, BP.f_bad_run, BP.f_ends, BP.f_guards_in, BP.f_fewest_guards, BP.f_guards_for_all, BP.f_can_get_stuck, BP.f_in_order, BP.f_reordered, BP.f_orders_of, BP.f_same_goal, BP.f_goal_orders, BP.f_clean_orders, BP.f_is_settled, BP.f_law_is, BP.f_law_after, BP.f_law_states, BP.f_law_draw, BP.f_law_action, BP.f_law_plan, BP.f_law_calls, BP.f_law_guards, BP.f_law_start, BP.f_law_back_from, BP.f_law_moves, BP.f_law_ends, BP.f_law_order]
abbrev n_is_state : List Str := ["items", "value"]
abbrev p_is_state : List Str := ["items", "value"]
abbrev c_is_state : CF := ⟨2, 2,
    (.cons (.exp (.call 1 (.cons (.var 0) .nil)))
    (.cons (.ret (.call 2 (.cons (.var 0) (.cons (.var 1) .nil))))
    .nil))⟩
@[irreducible] def f_is_state (scr : List Int) : Fun := runF (callD fs70 scr) 100000 c_is_state
theorem u_is_state : f_is_state = fun scr => runF (callD fs70 scr) 100000 c_is_state := by
  unfold f_is_state
  rfl
theorem cd_70_1 (scr : List Int) : callD fs70 scr 1 = BP.f_check_items scr := rfl
theorem cd_70_2 (scr : List Int) : callD fs70 scr 2 = BP.f_is_state_of scr := rfl
theorem k_is_state : ckSs ⟨n_is_state, nms70, CN, KW, EX, fun _ _ _ => false⟩ (defScope s_is_state) c_is_state.body (defBody s_is_state) = true := by decide +kernel
theorem sc_is_state : FnScope n_is_state p_is_state (defScope s_is_state) := ⟨rfl, rfl, rfl, by decide +kernel, rfl, by decide +kernel, by decide +kernel⟩
abbrev nms71 : List Str := nms70 ++ [("is_state" : Str)]
abbrev s_is_action : Stmt := top 21
abbrev fs71 : List (List Int → Fun) := [BP.f_is_between, BP.f_check_items, BP.f_is_state_of, BP.f_is_operation, BP.f_is_action_of, BP.f_check_action, BP.f_applied, BP.f_after, BP.f_states_of, BP.f_all_states, BP.f_first_unlike, BP.f_repeat_state, BP.f_exchange_state, BP.f_back_state, BP.f_loses_nothing, BP.f_is_reversible, BP.f_operations_of, BP.f_way_back, BP.f_is_ascending, BP.f_is_step, BP.f_is_plan, BP.f_check_plan, BP.f_calls_of, BP.f_is_call, BP.f_check_guards, BP.f_check_start, BP.f_all_guards, BP.f_goal_of, BP.f_goal, BP.f_outcomes_of, BP.f_taking_back, BP.f_next_of, BP.f_has_effect, BP.f_called, BP.f_moved, BP.f_is_good_end, BP.f_found_ends, BP.f_are_good, BP.f_ends_clean, BP.f_bad_starts, BP.f_is_event, BP.f_followed, BP.f_is_run, BP.f_run_end, BP.f_bad_run, BP.f_ends, BP.f_guards_in, BP.f_fewest_guards, BP.f_guards_for_all, BP.f_can_get_stuck, BP.f_in_order, BP.f_reordered, BP.f_orders_of, BP.f_same_goal, BP.f_goal_orders, BP.f_clean_orders, BP.f_is_settled, BP.f_law_is, BP.f_law_after, BP.f_law_states, BP.f_law_draw, BP.f_law_action, BP.f_law_plan, BP.f_law_calls, BP.f_law_guards, BP.f_law_start, BP.f_law_back_from, BP.f_law_moves, BP.f_law_ends, BP.f_law_order, f_is_state]
abbrev n_is_action : List Str := ["items", "value"]
abbrev p_is_action : List Str := ["items", "value"]
abbrev c_is_action : CF := ⟨2, 2,
    (.cons (.exp (.call 1 (.cons (.var 0) .nil)))
    (.cons (.ret (.call 4 (.cons (.var 0) (.cons (.var 1) .nil))))
    .nil))⟩
@[irreducible] def f_is_action (scr : List Int) : Fun := runF (callD fs71 scr) 100000 c_is_action
theorem u_is_action : f_is_action = fun scr => runF (callD fs71 scr) 100000 c_is_action := by
  unfold f_is_action
  rfl
theorem cd_71_1 (scr : List Int) : callD fs71 scr 1 = BP.f_check_items scr := rfl
theorem cd_71_4 (scr : List Int) : callD fs71 scr 4 = BP.f_is_action_of scr := rfl
theorem k_is_action : ckSs ⟨n_is_action, nms71, CN, KW, EX, fun _ _ _ => false⟩ (defScope s_is_action) c_is_action.body (defBody s_is_action) = true := by decide +kernel
theorem sc_is_action : FnScope n_is_action p_is_action (defScope s_is_action) := ⟨rfl, rfl, rfl, by decide +kernel, rfl, by decide +kernel, by decide +kernel⟩
abbrev nms72 : List Str := nms71 ++ [("is_action" : Str)]
abbrev s_law_odd_operations : Stmt := top 35
abbrev fs72 : List (List Int → Fun) := [BP.f_is_between, BP.f_check_items, BP.f_is_state_of, BP.f_is_operation, BP.f_is_action_of, BP.f_check_action, BP.f_applied, BP.f_after, BP.f_states_of, BP.f_all_states, BP.f_first_unlike, BP.f_repeat_state, BP.f_exchange_state, BP.f_back_state, BP.f_loses_nothing, BP.f_is_reversible, BP.f_operations_of, BP.f_way_back, BP.f_is_ascending, BP.f_is_step, BP.f_is_plan, BP.f_check_plan, BP.f_calls_of, BP.f_is_call, BP.f_check_guards, BP.f_check_start, BP.f_all_guards, BP.f_goal_of, BP.f_goal, BP.f_outcomes_of, BP.f_taking_back, BP.f_next_of, BP.f_has_effect, BP.f_called, BP.f_moved, BP.f_is_good_end, BP.f_found_ends, BP.f_are_good, BP.f_ends_clean, BP.f_bad_starts, BP.f_is_event, BP.f_followed, BP.f_is_run, BP.f_run_end, BP.f_bad_run, BP.f_ends, BP.f_guards_in, BP.f_fewest_guards, BP.f_guards_for_all, BP.f_can_get_stuck, BP.f_in_order, BP.f_reordered, BP.f_orders_of, BP.f_same_goal, BP.f_goal_orders, BP.f_clean_orders, BP.f_is_settled, BP.f_law_is, BP.f_law_after, BP.f_law_states, BP.f_law_draw, BP.f_law_action, BP.f_law_plan, BP.f_law_calls, BP.f_law_guards, BP.f_law_start, BP.f_law_back_from, BP.f_law_moves, BP.f_law_ends, BP.f_law_order, f_is_state, f_is_action]
abbrev n_law_odd_operations : List Str := ["_law_items_here", "_law_odds"]
abbrev p_law_odd_operations : List Str := ["_law_items_here"]
abbrev c_law_odd_operations : CF := ⟨1, 2,
    (.cons (.own 1 (.lst (.cons (.tup (.cons (.cst (PyData.str ("set" : Str))) (.cons (.cst (PyData.int 0)) (.cons (.cst (PyData.int 3)) .nil)))) (.cons (.tup (.cons (.cst (PyData.str ("set" : Str))) (.cons (.cst (PyData.int 0)) (.cons (.neg (.cst (PyData.int 1))) .nil)))) (.cons (.tup (.cons (.cst (PyData.str ("set" : Str))) (.cons (.var 0) (.cons (.cst (PyData.int 0)) .nil)))) (.cons (.tup (.cons (.cst (PyData.str ("add" : Str))) (.cons (.cst (PyData.int 0)) (.cons (.cst (PyData.int 0)) .nil)))) (.cons (.tup (.cons (.cst (PyData.str ("add" : Str))) (.cons (.cst (PyData.int 0)) (.cons (.cst (PyData.int 3)) .nil)))) (.cons (.tup (.cons (.cst (PyData.str ("copy" : Str))) (.cons (.cst (PyData.int 0)) (.cons (.cst (PyData.int 0)) .nil)))) .nil))))))))
    (.cons (.app 1 (.lst (.cons (.cst (PyData.str ("set" : Str))) (.cons (.cst (PyData.int 0)) (.cons (.cst (PyData.int 0)) .nil)))))
    (.cons (.asg (.v 1) (.bin .add (.var 1) (.lst (.cons (.tup (.cons (.cst (PyData.str ("copy" : Str))) (.cons (.cst (PyData.int 0)) (.cons (.var 0) .nil)))) (.cons (.tup (.cons (.cst (PyData.str ("Set" : Str))) (.cons (.cst (PyData.int 0)) (.cons (.cst (PyData.int 0)) .nil)))) (.cons (.tup (.cons (.cst (PyData.str ("set" : Str))) (.cons (.cst (PyData.int 0)) .nil))) (.cons (.tup (.cons (.cst (PyData.str ("set" : Str))) (.cons (.cst (PyData.int 0)) (.cons (.cst (PyData.int 0)) (.cons (.cst (PyData.int 0)) .nil))))) (.cons (.tup (.cons (.cst (PyData.int 0)) (.cons (.cst (PyData.int 0)) (.cons (.cst (PyData.int 0)) .nil)))) (.cons (.cst PyData.none) (.cons (.tup .nil) .nil))))))))))
    (.cons (.asg (.v 1) (.bin .add (.var 1) (.lst (.cons (.cst (PyData.str ("set" : Str))) (.cons (.tup (.cons (.cst (PyData.str ("set" : Str))) .nil)) .nil)))))
    (.cons (.ret (.bin .add (.var 1) (.lst (.cons (.tup (.cons (.cst (PyData.str ("set" : Str))) (.cons (.cst (PyData.bool true)) (.cons (.cst (PyData.int 0)) .nil)))) (.cons (.tup (.cons (.cst (PyData.str ("set" : Str))) (.cons (.cst (PyData.int 0)) (.cons (.cst (PyData.bool true)) .nil)))) (.cons (.tup (.cons (.cst (PyData.str ("add" : Str))) (.cons (.cst (PyData.int 0)) (.cons (.cst (PyData.bool true)) .nil)))) (.cons (.tup (.cons (.cst (PyData.str ("copy" : Str))) (.cons (.cst (PyData.bool false)) (.cons (.cst (PyData.int 1)) .nil)))) (.cons (.tup (.cons (.cst (PyData.str ("set" : Str))) (.cons (.cst (PyData.str ("0" : Str))) (.cons (.cst (PyData.int 0)) .nil)))) .nil))))))))
    .nil)))))⟩
@[irreducible] def f_law_odd_operations (scr : List Int) : Fun := runF (callD fs72 scr) 100000 c_law_odd_operations
theorem u_law_odd_operations : f_law_odd_operations = fun scr => runF (callD fs72 scr) 100000 c_law_odd_operations := by
  unfold f_law_odd_operations
  rfl
theorem k_law_odd_operations : ckSs ⟨n_law_odd_operations, nms72, CN, KW, EX, fun _ _ _ => false⟩ (defScope s_law_odd_operations) c_law_odd_operations.body (defBody s_law_odd_operations) = true := by decide +kernel
theorem sc_law_odd_operations : FnScope n_law_odd_operations p_law_odd_operations (defScope s_law_odd_operations) := ⟨rfl, rfl, rfl, by decide +kernel, rfl, by decide +kernel, by decide +kernel⟩
abbrev nms73 : List Str := nms72 ++ [("_law_odd_operations" : Str)]
abbrev s_law : Stmt := top 36
abbrev fs73 : List (List Int → Fun) := [BP.f_is_between, BP.f_check_items, BP.f_is_state_of, BP.f_is_operation, BP.f_is_action_of, BP.f_check_action, BP.f_applied, BP.f_after, BP.f_states_of, BP.f_all_states, BP.f_first_unlike, BP.f_repeat_state, BP.f_exchange_state, BP.f_back_state, BP.f_loses_nothing, BP.f_is_reversible, BP.f_operations_of, BP.f_way_back, BP.f_is_ascending, BP.f_is_step, BP.f_is_plan, BP.f_check_plan, BP.f_calls_of, BP.f_is_call, BP.f_check_guards, BP.f_check_start, BP.f_all_guards, BP.f_goal_of, BP.f_goal, BP.f_outcomes_of, BP.f_taking_back, BP.f_next_of, BP.f_has_effect, BP.f_called, BP.f_moved, BP.f_is_good_end, BP.f_found_ends, BP.f_are_good, BP.f_ends_clean, BP.f_bad_starts, BP.f_is_event, BP.f_followed, BP.f_is_run, BP.f_run_end, BP.f_bad_run, BP.f_ends, BP.f_guards_in, BP.f_fewest_guards, BP.f_guards_for_all, BP.f_can_get_stuck, BP.f_in_order, BP.f_reordered, BP.f_orders_of, BP.f_same_goal, BP.f_goal_orders, BP.f_clean_orders, BP.f_is_settled, BP.f_law_is, BP.f_law_after, BP.f_law_states, BP.f_law_draw, BP.f_law_action, BP.f_law_plan, BP.f_law_calls, BP.f_law_guards, BP.f_law_start, BP.f_law_back_from, BP.f_law_moves, BP.f_law_ends, BP.f_law_order, f_is_state, f_is_action, f_law_odd_operations]
abbrev n_law : List Str := ["_law_script", "_law_town", "_law_items_here", "_law_odd", "_law_odds", "_law_k", "_law_answers", "_law_action_here", "_law_state_here", "_law_some", "_law_bad"]
abbrev p_law : List Str := ["_law_script"]
abbrev c_law : CF := ⟨1, 11,
    (.cons (.for (.v 2) (.seq (.tup (.cons (.cst (PyData.int 1)) (.cons (.cst (PyData.int 2)) (.cons (.cst (PyData.int 3)) .nil)))))
    (.cons (.iff (.cmp .ne (.call 9 (.cons (.var 2) .nil)) (.p1 .tuple (.call 59 (.cons (.var 2) .nil))))
    (.cons (.ret (.cst (PyData.bool false)))
    .nil)
    .nil)
    (.cons (.asg (.v 4) (.call 72 (.cons (.var 2) .nil)))
    (.cons (.iff (.cmp .ne (.lcIf [3] (.v 3) (.seq (.var 4)) (.not (.call 57 (.cons (.call 71 (.cons (.var 2) (.cons (.tup (.cons (.var 3) .nil)) .nil))) (.cons (.cst (PyData.bool false)) .nil)))) (.var 3)) (.lst .nil))
    (.cons (.ret (.cst (PyData.bool false)))
    .nil)
    .nil)
    (.cons (.for (.v 5) (.rng (.cst (PyData.int 3)))
    (.cons (.asg (.v 7) (.call 61 (.cons (.var 0) (.cons (.var 1) (.cons (.var 2) .nil)))))
    (.cons (.iff (.not (.call 57 (.cons (.call 71 (.cons (.var 2) (.cons (.var 7) .nil))) (.cons (.cst (PyData.bool true)) .nil))))
    (.cons (.ret (.cst (PyData.bool false)))
    .nil)
    .nil)
    (.cons (.iff (.not (.call 57 (.cons (.call 71 (.cons (.var 2) (.cons (.p1 .list (.var 7)) .nil))) (.cons (.cst (PyData.bool false)) .nil))))
    (.cons (.ret (.cst (PyData.bool false)))
    .nil)
    .nil)
    (.cons (.iff (.not (.call 57 (.cons (.call 71 (.cons (.var 2) (.cons (.slH (.bin .add (.var 7) (.bin .mul (.tup (.cons (.tup (.cons (.cst (PyData.str ("set" : Str))) (.cons (.cst (PyData.int 0)) (.cons (.cst (PyData.int 0)) .nil)))) .nil)) (.cst (PyData.int 4)))) (.cst (PyData.int 4))) .nil))) (.cons (.cst (PyData.bool false)) .nil))))
    (.cons (.ret (.cst (PyData.bool false)))
    .nil)
    .nil)
    (.cons (.for (.v 8) (.seq (.call 59 (.cons (.var 2) .nil)))
    (.cons (.iff (.cmp .ne (.call 7 (.cons (.var 2) (.cons (.var 7) (.cons (.var 8) .nil)))) (.call 58 (.cons (.var 7) (.cons (.var 8) .nil))))
    (.cons (.ret (.cst (PyData.bool false)))
    .nil)
    .nil)
    (.cons (.iff (.not (.call 57 (.cons (.call 70 (.cons (.var 2) (.cons (.var 8) .nil))) (.cons (.cst (PyData.bool true)) .nil))))
    (.cons (.ret (.cst (PyData.bool false)))
    .nil)
    .nil)
    .nil)))
    (.cons (.asg (.v 9) (.bin .mul (.tup (.cons (.cst (PyData.int 0)) .nil)) (.var 2)))
    (.cons (.asg (.v 10) (.lst (.cons (.bin .add (.slL (.var 9) (.cst (PyData.int 1))) (.tup (.cons (.cst (PyData.int 3)) .nil))) (.cons (.bin .add (.slL (.var 9) (.cst (PyData.int 1))) (.tup (.cons (.cst (PyData.bool true)) .nil))) (.cons (.bin .add (.slL (.var 9) (.cst (PyData.int 1))) (.tup (.cons (.cst (PyData.str ("0" : Str))) .nil))) .nil)))))
    (.cons (.for (.v 3) (.seq (.bin .add (.var 10) (.lst (.cons (.cst PyData.none) (.cons (.bin .add (.var 9) (.tup (.cons (.cst (PyData.int 0)) .nil))) (.cons (.slL (.var 9) (.cst (PyData.int 1))) (.cons (.p1 .list (.var 9)) .nil)))))))
    (.cons (.iff (.not (.call 57 (.cons (.call 70 (.cons (.var 2) (.cons (.var 3) .nil))) (.cons (.cst (PyData.bool false)) .nil))))
    (.cons (.ret (.cst (PyData.bool false)))
    .nil)
    .nil)
    (.cons (.iff (.cmp .ne (.res (.call 7 (.cons (.var 2) (.cons (.var 7) (.cons (.var 3) .nil))))) (.tup (.cons (.cst (PyData.str ("state" : Str))) .nil)))
    (.cons (.ret (.cst (PyData.bool false)))
    .nil)
    .nil)
    .nil)))
    (.cons (.iff (.cmp .ne (.res (.call 7 (.cons (.var 2) (.cons (.cst PyData.none) (.cons (.cst PyData.none) .nil))))) (.tup (.cons (.cst (PyData.str ("action" : Str))) .nil)))
    (.cons (.ret (.cst (PyData.bool false)))
    .nil)
    .nil)
    .nil))))))))))
    .nil)))))
    (.cons (.for (.v 3) (.seq (.tup (.cons (.cst PyData.none) (.cons (.cst (PyData.int 0)) (.cons (.cst (PyData.int 4)) (.cons (.cst (PyData.bool true)) (.cons (.cst (PyData.str ("1" : Str))) (.cons (.tup (.cons (.cst (PyData.int 1)) .nil)) .nil))))))))
    (.cons (.own 6 (.lst (.cons (.res (.call 9 (.cons (.var 3) .nil))) .nil)))
    (.cons (.app 6 (.res (.call 70 (.cons (.var 3) (.cons (.tup .nil) .nil)))))
    (.cons (.app 6 (.res (.call 71 (.cons (.var 3) (.cons (.tup .nil) .nil)))))
    (.cons (.iff (.cmp .ne (.bin .add (.var 6) (.lst (.cons (.res (.call 7 (.cons (.var 3) (.cons (.cst PyData.none) (.cons (.cst PyData.none) .nil))))) .nil))) (.bin .mul (.lst (.cons (.tup (.cons (.cst (PyData.str ("items" : Str))) .nil)) .nil)) (.cst (PyData.int 4))))
    (.cons (.ret (.cst (PyData.bool false)))
    .nil)
    .nil)
    .nil)))))
    (.cons (.ret (.cst (PyData.bool true)))
    .nil)))⟩
theorem cd_73_7 (scr : List Int) : callD fs73 scr 7 = BP.f_after scr := rfl
theorem cd_73_9 (scr : List Int) : callD fs73 scr 9 = BP.f_all_states scr := rfl
theorem cd_73_57 (scr : List Int) : callD fs73 scr 57 = BP.f_law_is scr := rfl
theorem cd_73_58 (scr : List Int) : callD fs73 scr 58 = BP.f_law_after scr := rfl
theorem cd_73_59 (scr : List Int) : callD fs73 scr 59 = BP.f_law_states scr := rfl
theorem cd_73_61 (scr : List Int) : callD fs73 scr 61 = BP.f_law_action scr := rfl
theorem cd_73_70 (scr : List Int) : callD fs73 scr 70 = f_is_state scr := rfl
theorem cd_73_71 (scr : List Int) : callD fs73 scr 71 = f_is_action scr := rfl
theorem cd_73_72 (scr : List Int) : callD fs73 scr 72 = f_law_odd_operations scr := rfl
theorem k_law : ckSs (Nm.lam ⟨n_law, nms73, CN, KW, EX, fun _ _ _ => false⟩) (defScope s_law) c_law.body ((defBody s_law).drop 1) = true := by decide +kernel
theorem sc_law : FnScope n_law p_law (defScope s_law) := ⟨rfl, rfl, rfl, by decide +kernel, rfl, by decide +kernel, by decide +kernel⟩
end K01
set_option Elab.async false
set_option linter.all false
set_option maxRecDepth 100000
set_option maxHeartbeats 4000000
/-! The law itself: the town is made, then the small language. -/
namespace BK
open PySem L2
theorem merge_town {ra : Addr} : mergeK [] [((.inr "count" : Key), V.int 0), (.inr "rests", V.ref ra)] = [(.inr "count", .int 0), (.inr "rests", .ref ra)] := by
  have e2 : ¬ ((.inr "count" : Key) = .inr "rests") := by
    intro z
    exact absurd (Sum.inr.inj z) (by decide)
  simp [mergeK, putK, e2]
def spB : Sp := fun vs H Q _ => vs = [] ∧ ∀ ta ra, H ta = none → H ra = none → ta ≠ ra → Q (.ref ta) (upd (upd (upd H ta (.dK [])) ra (.dK [])) ta (.dK [(.inr "count", .int 0), (.inr "rests", .ref ra)]))
def spL (K : PySem.W.Frag) (T : List (Addr × Str)) : Sp := fun vs H Q _ => ∃ (a : Addr) (ns : List Int), vs = [.ref a] ∧ SqL K H a (ns.map V.int) ∧ ns.length ≤ 63 ∧ (∀ p ∈ T, H p.1 = some (.tbl #[])) ∧ ∀ H', Q (.bl true) H'
def lawEnv (n : Nat) : Env := some (false, .scr) :: some (false, .town) :: List.replicate (n - 2) none
section
variable {P : Program} {w : World} {K : PySem.W.Frag} {mg : Str → Option Value} {base : Heap} {k : Nat}
theorem begun_ok {st : Stmt} {f : Addr} {fd : FuncData} (FU : L2.Fun K "_law_begun" "_law_begun" st f fd) {p1 p2 p3 p4 p5 p6 : Pos} {k1 k2 k3 : Nat}
    (hb : defBody st = [.Return (some (.Dict [some (.Constant (.str "count") k1 p1), some (.Constant (.str "rests") k2 p2)] [.Constant (.int 0) k3 p3, .Dict [] [] p4] p5)) p6]) (S : FnScope [] [] (defScope st)) : FnOk P w K mg base CX0 1 f fd [] spB := by
  refine L2.Fun.ok FU S (fun vs H Q E h => by rw [h.1]; rfl) fun cdv A outer s H vs Q E hr h => ?_
  obtain ⟨rfl, q⟩ := h
  rw [hb]
  refine ⟨_, pss_one (ps_ret (pe_disp (pps_cons pe_str pe_int (pps_cons pe_str pe_dnewK pps_nil)) rfl rfl (by simp) (by simp))), ?_⟩
  intro ta hta ra hra
  have hne : ta ≠ ra := fun e => by
    rw [← e, upd_same] at hra
    cases hra
  have hra0 : H ra = none := by
    rw [upd_ne (Ne.symm hne)] at hra
    exact hra
  refine ⟨by rw [upd_ne hne, upd_same], [(.inr "count", .int 0), (.inr "rests", .ref ra)], rfl, (by decide : 2 ≤ 15), ?_⟩
  rw [merge_town]
  exact q ta ra hta hra0 hne
theorem law_body {st : Stmt} {f fb : Addr} {fd fdb : FuncData} {τ0 : Tn} {fs : List (List Int → Fun)} {nm : Nm} {cf : CF} {fu : Nat} (FU : L2.Fun K "law" "law" st f fd) (S : FnScope nm.N ["_law_script"] (defScope st)) (G : Gx P w K mg base τ0 nm.CN nm.EX) (T : Tab P w K mg base (L2.CX P w) k τ0 nm.KW nm.GN fs)
    (L : ∀ (cdv : Value) (A : Around) (outer : List PySem.Env) (s : Shared) (H : Hp) (E : XK) (τ : Tn), fd.code = cdv → Room k (A.deeper (PyProof.Rows.envOfC "law" (defScope st) s.heap.objs.size f cdv)) → τ.fa = τ0.fa → τ.cl = τ0.cl → τ.tabs = τ0.tabs → τ.K = K →
      ∀ sc e b, nm.rc sc e b = true → ck nm.flat sc e b = true ∧ LamAt nm (fun i scr => callD fs scr i) (L2.CX P w) (cxOf (L2.CX P w) P w K mg base nm.N "law" (defScope st) f cdv A outer s H E) τ)
    (hk : 1 ≤ k) (hB : FnOk P w K mg base CX0 1 fb fdb [] spB) (bB : Binds K fdb [] []) (mB : mg "_law_begun" = some (.ref fb)) (kB : PySem.W.keepIn K (.ref fb) = true) {p1 p2 p3 p4 : Pos} {rest : List Stmt}
    (hb : defBody st = .Assign [.Name "_law_town" p1] (.Call (.Name "_law_begun" p2) [] [] p3) p4 :: rest) (hN : nm.N[1]? = some ("_law_town" : Str)) (hloc : (defScope st).names.lookup ("_law_town" : Str) = some .local) (hgl : (defScope st).names.lookup ("_law_begun" : Str) = some .globalImplicit)
    (hK : τ0.K = K) (hc : ckSs nm (defScope st) cf.body rest = true)
    (plain : ∀ scr : List Int, scr.length ≤ 63 → ∃ s', exs (callD fs scr) fu cf.body (lawEnv nm.N.length) ⟨0, []⟩ = .ok (.rt (bl true)) s') :
    FnOk P w K mg base (L2.CX P w) (k + 1) f fd ["_law_script"] (spL K τ0.tabs) := by
  refine Fun.okC FU S (fun vs H Q E h => by obtain ⟨a, ns, rfl, _⟩ := h; rfl) fun cdv A outer s H vs Q E hcd hr h => ?_
  obtain ⟨a, ns, rfl, hs, hl, hTb, q⟩ := h
  have hN2 : 2 ≤ nm.N.length := (List.getElem?_eq_some_iff.mp hN).1
  rw [hb]
  have hF : ∀ τ : Tn, τ.fa = τ0.fa → τ.cl = τ0.cl → τ.tabs = τ0.tabs → τ.K = K → Fx nm (fun i scr => callD fs scr i) (L2.CX P w) (cxOf (L2.CX P w) P w K mg base nm.N "law" (defScope st) f cdv A outer s H E) τ E := fun τ ef ec et eK =>
    ⟨fxb_of rfl rfl rfl rfl rfl rfl rfl S.nd hr (L2.takes_of rfl rfl rfl rfl) G T ef ec et eK, L cdv A outer s H E τ hcd hr ef ec et eK⟩
  have bX : Bx (cxOf (L2.CX P w) P w K mg base nm.N "law" (defScope st) f cdv A outer s H E) := ⟨by
    show (if (defScope st).kind.isAnnotationScope then ScopeKind.function else (defScope st).kind) = .function
    rw [S.kind]
    rfl, passes_of rfl, fun _ => rfl⟩
  -- the town that comes, as the text's words are read
  have key : ∀ ta ra, H ta = none → H ra = none → ta ≠ ra → ∃ τ : Tn, τ.fa = τ0.fa ∧ τ.cl = τ0.cl ∧ τ.tabs = τ0.tabs ∧ τ.K = K ∧ τ.ta = ta ∧ τ.ra = ra ∧ τ.sa = a ∧ τ.scr = ns ∧
      TownR τ (upd (upd (upd H ta (.dK [])) ra (.dK [])) ta (.dK [(.inr "count", .int 0), (.inr "rests", .ref ra)])) ⟨0, []⟩ := by
    intro ta ra hta hra hne
    have hT : ∀ τ : Tn, τ.ta = ta → τ.ra = ra → τ.tabs = τ0.tabs → Scr τ (upd (upd (upd H ta (.dK [])) ra (.dK [])) ta (.dK [(.inr "count", .int 0), (.inr "rests", .ref ra)])) → TownR τ (upd (upd (upd H ta (.dK [])) ra (.dK [])) ta (.dK [(.inr "count", .int 0), (.inr "rests", .ref ra)])) ⟨0, []⟩ := by
      intro τ e1 e2 e3 sc
      refine ⟨by rw [e1, e2, upd_same], by rw [e2, upd_ne (Ne.symm hne), upd_same]; rfl, by rw [e1, e2]; exact hne, ?_, sc⟩
      rw [e3]
      intro p hp
      have n1 : p.1 ≠ ta := fun e => by have z := hTb p hp; rw [e, hta] at z; cases z
      have n2 : p.1 ≠ ra := fun e => by have z := hTb p hp; rw [e, hra] at z; cases z
      exact LamX.TabS.nil (by rw [upd_ne n1, upd_ne n2, upd_ne n1]; exact hTb p hp)
    rcases hs with hs | hs
    · refine ⟨{ τ0 with ta := ta, ra := ra, sa := a, scr := ns, dy := true, K := K }, rfl, rfl, rfl, rfl, rfl, rfl, rfl, rfl, hT _ rfl rfl rfl ?_⟩
      have n1 : a ≠ ta := fun e => by rcases hs with z | ⟨o, z⟩ <;> rw [e, hta] at z <;> cases z
      have n2 : a ≠ ra := fun e => by rcases hs with z | ⟨o, z⟩ <;> rw [e, hra] at z <;> cases z
      unfold Scr Rd
      rw [if_pos rfl]
      simp only [upd_ne n1, upd_ne n2]
      exact hs
    · refine ⟨{ τ0 with ta := ta, ra := ra, sa := a, scr := ns, dy := false, K := K }, rfl, rfl, rfl, rfl, rfl, rfl, rfl, rfl, hT _ rfl rfl rfl ?_⟩
      unfold Scr
      rw [if_neg Bool.false_ne_true]
      exact .inr hs
  refine ⟨_, pss_cons (ps_set (i := 1) S.nd hN (.inl hloc) (pe_call0 (FnOk.lift hB) (hr.mono hk) hgl mB kB bB .nil passL) rfl (.inr hloc)) (PSs.imp (t' := fun D σ H1 => ∃ τ, tS (arOf (cxOf (L2.CX P w) P w K mg base nm.N "law" (defScope st) f cdv A outer s H E) τ τ.U E) (exs (GG (fun i scr => callD fs scr i) τ) fu cf.body) D σ H1 ∧ τ.fa = τ0.fa ∧ τ.cl = τ0.cl ∧ τ.tabs = τ0.tabs ∧ τ.K = K) (t := fun D σ H1 => ∃ τ, tS (arOf (cxOf (L2.CX P w) P w K mg base nm.N "law" (defScope st) f cdv A outer s H E) τ τ.U E) (exs (GG (fun i scr => callD fs scr i) τ) fu cf.body) D σ H1 ∧ τ.fa = τ0.fa ∧ τ.cl = τ0.cl ∧ τ.tabs = τ0.tabs ∧ τ.K = K) ⟨fun pins s1 σ H1 D I ⟨τ, z, ef, ec, et, eK⟩ => (snSs (nm := nm) (Gs := fun i scr => callD fs scr i) (fu := fu) cf.body _ τ τ.U E (hF τ ef ec et eK) bX rest hc).run pins s1 σ H1 D I z⟩ fun _ _ _ z => z), ?_⟩
  refine ⟨rfl, fun ta ra hta hra hne => ?_⟩
  obtain ⟨τ, ef, ec, et, eK, e1, e2, e3, e4, t⟩ := key ta ra hta hra hne
  refine ⟨τ, ⟨lawEnv nm.N.length, ⟨0, []⟩, ?_, t, ?_⟩, ef, ec, et, eK⟩
  · have hO : ∀ b, ¬ Own (lawEnv nm.N.length) ((L2.start nm.N [V.ref a]).set 1 (some (V.ref ta))) b := fun b ⟨i, d, h1, _⟩ => by
      unfold lawEnv at h1
      match i with
      | 0 => cases h1
      | 1 => cases h1
      | i + 2 =>
        rw [List.getElem?_cons_succ, List.getElem?_cons_succ, List.getElem?_replicate] at h1
        split at h1 <;> cases h1
    refine ⟨?_, fun i d h => ?_, fun i d h => ?_, fun i j b d e h1 => ?_, fun b h => t.ne h, fun b h => h⟩
    · unfold lawEnv L2.start
      simp
      omega
    · unfold lawEnv at h
      match i with
      | 0 =>
        cases h
        exact ⟨.ref a, rfl, show V.ref a = .ref τ.sa by rw [e3]⟩
      | 1 =>
        cases h
        refine ⟨.ref ta, ?_, show V.ref ta = .ref τ.ta by rw [e1]⟩
        rw [List.getElem?_set_self]
        unfold L2.start
        simp
        omega
      | i + 2 =>
        rw [List.getElem?_cons_succ, List.getElem?_cons_succ, List.getElem?_replicate] at h
        split at h <;> cases h
    · unfold lawEnv at h
      match i with
      | 0 => cases h
      | 1 => cases h
      | i + 2 =>
        rw [List.getElem?_cons_succ, List.getElem?_cons_succ, List.getElem?_replicate] at h
        split at h <;> cases h
    · unfold lawEnv at h1
      match i with
      | 0 => cases h1
      | 1 => cases h1
      | i + 2 =>
        rw [List.getElem?_cons_succ, List.getElem?_cons_succ, List.getElem?_replicate] at h1
        split at h1 <;> cases h1
  · obtain ⟨s', hs'⟩ := plain ns hl
    have e : exs (GG (fun i scr => callD fs scr i) τ) fu cf.body (lawEnv nm.N.length) ⟨0, []⟩ = .ok (.rt (bl true)) s' := by
      rw [← e4] at hs'
      exact hs'
    unfold SOk
    rw [e]
    intro v H' _ _ dv
    have := dv.i.bl
    rw [this]
    exact q H'
theorem law_ok {st : Stmt} {f fb : Addr} {fd fdb : FuncData} {N : List Str} {τ0 : Tn} {names : List Str} {fs : List (List Int → Fun)} {CN : List (Str × PyData)} {KW : List (Nat × Nat × List Str)} {EX : List Nat} {cf : CF} {fu : Nat} (FU : L2.Fun K "law" "law" st f fd) (S : FnScope N ["_law_script"] (defScope st)) (G : Gx P w K mg base τ0 CN EX) (T : Tab P w K mg base (L2.CX P w) k τ0 KW names fs)
    (hk : 1 ≤ k) (hB : FnOk P w K mg base CX0 1 fb fdb [] spB) (bB : Binds K fdb [] []) (mB : mg "_law_begun" = some (.ref fb)) (kB : PySem.W.keepIn K (.ref fb) = true) {p1 p2 p3 p4 : Pos} {rest : List Stmt}
    (hb : defBody st = .Assign [.Name "_law_town" p1] (.Call (.Name "_law_begun" p2) [] [] p3) p4 :: rest) (hN : N[1]? = some ("_law_town" : Str)) (hloc : (defScope st).names.lookup ("_law_town" : Str) = some .local) (hgl : (defScope st).names.lookup ("_law_begun" : Str) = some .globalImplicit)
    (hK : τ0.K = K) (hc : ckSs ⟨N, names, CN, KW, EX, fun _ _ _ => false⟩ (defScope st) cf.body rest = true)
    (plain : ∀ scr : List Int, scr.length ≤ 63 → ∃ s', exs (callD fs scr) fu cf.body (lawEnv N.length) ⟨0, []⟩ = .ok (.rt (bl true)) s') :
    FnOk P w K mg base (L2.CX P w) (k + 1) f fd ["_law_script"] (spL K τ0.tabs) :=
  law_body (nm := ⟨N, names, CN, KW, EX, fun _ _ _ => false⟩) FU S G T (fun _ _ _ _ _ _ _ _ _ _ _ _ _ _ _ _ z => by cases z) hk hB bB mB kB hb hN hloc hgl hK hc plain
theorem law_okL {st : Stmt} {f fb : Addr} {fd fdb : FuncData} {N : List Str} {τ0 : Tn} {names : List Str} {fs : List (List Int → Fun)} {CN : List (Str × PyData)} {KW : List (Nat × Nat × List Str)} {EX : List Nat} {cf : CF} {fu : Nat} (FU : L2.Fun K "law" "law" st f fd) (S : FnScope N ["_law_script"] (defScope st)) (G : Gx P w K mg base τ0 CN EX) (T : Tab P w K mg base (L2.CX P w) k τ0 KW names fs)
    (R : ResG K mg τ0) (L : LamT mg base fd "law" τ0.tabs) (hB : FnOk P w K mg base CX0 1 fb fdb [] spB) (bB : Binds K fdb [] []) (mB : mg "_law_begun" = some (.ref fb)) (kB : PySem.W.keepIn K (.ref fb) = true) {p1 p2 p3 p4 : Pos} {rest : List Stmt}
    (hb : defBody st = .Assign [.Name "_law_town" p1] (.Call (.Name "_law_begun" p2) [] [] p3) p4 :: rest) (hN : N[1]? = some ("_law_town" : Str)) (hloc : (defScope st).names.lookup ("_law_town" : Str) = some .local) (hgl : (defScope st).names.lookup ("_law_begun" : Str) = some .globalImplicit)
    (hK : τ0.K = K) (hc : ckSs (Nm.lam ⟨N, names, CN, KW, EX, fun _ _ _ => false⟩) (defScope st) cf.body rest = true)
    (plain : ∀ scr : List Int, scr.length ≤ 63 → ∃ s', exs (callD fs scr) fu cf.body (lawEnv N.length) ⟨0, []⟩ = .ok (.rt (bl true)) s') :
    FnOk P w K mg base (L2.CX P w) (k + 3) f fd ["_law_script"] (spL K τ0.tabs) :=
  law_body (k := k + 2) (nm := Nm.lam ⟨N, names, CN, KW, EX, fun _ _ _ => false⟩) FU S G (T.up (by omega)) (fun cdv A outer s H E τ hcd hr ef ec et eK => lam_of (x := "law") S.nd hr hcd G T (fun _ _ _ h => ⟨h, R, L⟩) ef ec et eK) (by omega) hB bB mB kB hb hN hloc hgl hK hc plain
end
/-- the code object that the table belongs to -/
theorem code_of_tab {K : PySem.W.Frag} {x : Str} {f c P : Addr} {oc : Value} {od : Option Addr} {fd : FuncData} {osl : Array (Option Value)} (a : PySem.W.nsIn K mainGlobals x = some (some (.ref f))) (l : K.lookup f = some ⟨oc, od, .func fd, osl⟩) (t : PySem.W.tabIn K x = some (c, P)) : fd.code = .ref c := by
  unfold PySem.W.tabIn at t
  rw [a] at t
  dsimp only at t
  rw [l] at t
  dsimp only at t
  split at t
  · rename_i c' hc
    split at t
    · split at t
      · cases t
        exact hc
      · cases t
    · cases t
  · cases t
open PySem.Spec PyProof.Rows in
/-- the end of a law whose defs hold lambdas -/
theorem walk_ofN {l : PySem.W.OpenLaw} {n k : Nat} {q : Program} {loose : List Str} {XP : (Str → Option Value) → Heap → Prop} {YP : World → Heap → Prop} {d : DefRec} {K : Params → PySem.W.Frag} {CX : World → CXT} {x : Str}
    (hn : l.most = some n) (hn2 : n ≤ sizeLine) (hdf : d.params.defaults = []) (hr : Room k callerA) (hY : ∀ (w : World) (h : Heap), YP w h → (K w.params).In h)
    (F : ∀ (w : World) (mg : Str → Option Value) (fa : Addr) (h : Heap), YP w h → (K w.params).In h → h.Ns mainGlobals mg → mg d.name = some (.ref fa) →
      (∀ (x : Str) (c P : Addr), ((recsOf q).find? fun e => e.name == x).isSome = true → PySem.W.tabIn (K w.params) x = some (c, P) → PySem.W.CodeHd h c P ∧ h.get? P = some { cls := .none, data := .fields #[] }) → LamX.LawAtS l w (K w.params) (CX w) k n x mg fa h)
    (hCX : ∀ (w : World) (H : Hp) (s : Shared) (e : Value) (s' : Shared), CX w [] H s (fun _ _ _ => False) e s' → False) :
    PySem.W.WalkO q loose XP YP l.row.toRowW d [] (fun f vs => PySem.call f vs) := by
  refine Att.attach_callB hn hdf fun w s₀ s₁ mg mb fa o pm cd doc a vs ns G Y ho hd hcd hmg hobj hints hlen hbits hg => ?_
  have KX := hY w _ Y
  obtain ⟨fd, cs, sp, hT, nT, C, hb, hsp, hF⟩ := F w mg fa _ Y KX G.T.g hmg fun x c P h t => by
    obtain ⟨dx, hx⟩ := Option.isSome_iff_exists.mp h
    exact PySem.W.tab_of G.T KX hx t
  exact LamX.law_callTs KX G.T.g G.T.b G.T.builtins G.T.nolimit hg hT nT C G.T.bmain hobj hints (Nat.le_trans hlen hn2) hr hF hb (fun H hH hS => hsp H a ns hlen hbits hH hS) fun H e s' => hCX w H s₁ e s'
theorem cx_never {P : Program} {w : World} {H : Hp} {s s' : Shared} {e : Value} (h : L2.CX P w [] H s (fun _ _ _ => False) e s') : False := by
  obtain ⟨_, _, _, _, _, _, _, _, _, _, _, _, z⟩ := h
  exact z
/-- a pair of a text and a number, written in the module -/
theorem cn_pair {K : PySem.W.Frag} {S : Addr → Prop} {H : Hp} {f : Addr} {od : Option Addr} {sl : Array (Option Value)} {n : Nat} {x : Str} {i : Int} {t0 t1 : Tok} (h : K.lookup f = some ⟨.type "tuple", od, .seq #[.str x t0, .int i t1] n, sl⟩) : Dr K S H (.ref f) (.tuple [.str x, .int i]) :=
  .tup (xs := [.str x, .int i]) (.inr ⟨_, _, _, h, rfl, rfl, (by decide : 2 ≤ sizeLine), .cons ⟨t0, rfl⟩ (.cons ⟨t1, rfl⟩ .nil)⟩) (.cons (.str x) (.cons (.int i) .nil))
theorem mem_cons_p {α : Type} {P : α → Prop} {x : α} {l : List α} (h : P x) (hl : ∀ p ∈ l, P p) : ∀ p ∈ x :: l, P p := fun p hp => by
  rcases List.mem_cons.mp hp with rfl | hp
  · exact h
  · exact hl p hp
/-- what raising asks of the classes -/
def exRaise (K : PySem.W.Frag) (l : List Addr) : Bool := l.all fun C => PySem.W.keepIn K (.ref C) && PySem.W.excIn K C bmV "ValueError.__new__" && (PySem.W.subIn K (.ref C) (.type "BaseException") == some true) && (PySem.W.typeIn K (.ref C) == some (.type "type"))
theorem exB_of {K : PySem.W.Frag} {mg : Str → Option Value} {C : Addr} {x : Str} {l : List Addr} (h : mg x = some (.ref C)) (hl : exRaise K l = true) (hC : C ∈ l) : ExB K mg (.ref C) x := by
  have z := List.all_eq_true.mp hl C hC
  simp only [Bool.and_eq_true, beq_iff_eq] at z
  exact ⟨C, rfl, h, z.1.1.1, z.1.1.2, z.1.2, z.2⟩
/-- what telling asks of the classes -/
def exOne (K : PySem.W.Frag) (D : Addr) : Bool := (PySem.W.findIn K (.ref D) "__getattribute__" == some (some (.builtin "BaseException.__getattribute__"))) && (PySem.W.findIn K (.ref D) "__getattr__" == some none) && (PySem.W.subIn K (.ref D) (.type "BaseException") == some true) && PySem.W.hasDictIn K D &&
  (PySem.W.findIn K (.ref D) "__class__" == some (some (.builtin "object.__class__"))) && (PySem.W.specialIn K (.builtin "object.__class__") "__get__" == some (some (.builtin "getset_descriptor.__get__"))) && (PySem.W.takesIn K (.builtin "object.__class__") == some true) && (PySem.W.mroIn K D (.type "object") == some true)
theorem exOne_c {K : PySem.W.Frag} {D : Addr} (h : exOne K D = true) : ExcC K D := by
  unfold exOne at h
  simp only [Bool.and_eq_true, beq_iff_eq] at h
  obtain ⟨⟨⟨⟨⟨⟨⟨h1, h2⟩, h3⟩, h4⟩, h5⟩, h6⟩, h7⟩, h8⟩ := h
  exact ⟨h1, h2, h3, h4, h5, h6, h7, h8⟩
def exAll (K : PySem.W.Frag) (l : List Addr) (cs : Addr) : Bool := (List.range 12).all fun i => exOne K (l.getD i 0) && (PySem.W.exmOne K (.ref (l.getD i 0)) (.ref cs) == some true) && (PySem.W.kitOne K (.ref (l.getD i 0)) (.type "ValueError") == some true) &&
  (List.range 12).all fun j => PySem.W.kitOne K (.ref (l.getD i 0)) (.ref (l.getD j 0)) == some (decide (i = j))
theorem exAll_k {K : PySem.W.Frag} {l : List Addr} {cs : Addr} (h : exAll K l cs = true) (i : Nat) (hi : i < 12) : ExK K (fun i => l.getD i 0) cs i := by
  have z := List.all_eq_true.mp h i (List.mem_range.mpr hi)
  simp only [Bool.and_eq_true, beq_iff_eq] at z
  refine ⟨exOne_c z.1.1.1, z.1.1.2, z.1.2, fun j hj => ?_⟩
  exact beq_iff_eq.mp (List.all_eq_true.mp z.2 j (List.mem_range.mpr hj))
inductive Nms (mg : Str → Option Value) : List Str → List Addr → Prop
  | nil : Nms mg [] []
  | cons {x : Str} {a : Addr} {xs : List Str} {l : List Addr} : mg x = some (.ref a) → Nms mg xs l → Nms mg (x :: xs) (a :: l)
theorem nm_nil {mg : Str → Option Value} : Nms mg [] [] := .nil
theorem nm_cons {mg : Str → Option Value} {x : Str} {a : Addr} {xs : List Str} {l : List Addr} (h : mg x = some (.ref a)) (r : Nms mg xs l) : Nms mg (x :: xs) (a :: l) := .cons h r
theorem Nms.get {mg : Str → Option Value} : ∀ {xs : List Str} {l : List Addr} {i : Nat} {x : Str}, Nms mg xs l → xs[i]? = some x → mg x = some (.ref (l.getD i 0))
  | _, _, _, _, .nil, h => by simp at h
  | _, _, 0, x, .cons h _, e => by
    have e : _ = x := Option.some.inj e
    rw [← e]
    exact h
  | _, _, i + 1, x, .cons _ r, e => Nms.get (i := i) (x := x) r (by simpa using e)
theorem resG_of {K : PySem.W.Frag} {mg : Str → Option Value} {τ0 : Tn} {g cs : Addr} {st : Stmt} {fd : FuncData} (F : L2.Fun K "_law_result" "_law_result" st g fd) (b : L2.Binds K fd ["_law_call"] []) (S : FnScope resN ["_law_call"] (defScope st)) (c : ckRes (defScope st) (defBody st) = true)
    (m : mg "_law_result" = some (.ref g)) (k : PySem.W.keepIn K (.ref g) = true) (ms : mg "StepError" = some (.ref cs)) (mv : mg "ValueError" = none) (mi : mg "isinstance" = none) (ml : mg "len" = none) (l : List Addr) (hl : l.length = 12) (hc : ∀ i, i < 12 → τ0.cl i = .ref (l.getD i 0))
    (hn : Nms mg exN l) (h : exAll K l cs = true) : ResG K mg τ0 :=
  ⟨g, st, fd, cs, fun i => l.getD i 0, F, b, S, c, m, k, ms, fun i x e => hn.get e, mv, mi, ml, exAll_k h, hc⟩
end BK
set_option Elab.async false
set_option linter.all false
set_option maxRecDepth 100000
set_option maxHeartbeats 4000000
namespace K01
open PySem BK L2 BP
abbrev n_law_draw : List Str := ["_law_script", "_law_town", "_law_many", "_law_at", "_law_rest", "_law_number"]
abbrev p_law_draw : List Str := ["_law_script", "_law_town", "_law_many"]
theorem sc_law_draw : FnScope n_law_draw p_law_draw (defScope s_law_draw) := ⟨rfl, rfl, rfl, by decide +kernel, rfl, by decide +kernel, by decide +kernel⟩
section
variable {P : Program} {w : World} {K : PySem.W.Frag} {mg : Str → Option Value} {base : Heap}
theorem nosl {X : Cx} {c : Const} {k : Nat} {p : Pos} : NoSl (.Constant c k p) := fun _ _ => rfl
theorem nosN {x : Str} {p : Pos} : NoSl (.Name x p) := fun _ _ => rfl
theorem ok_draw {f : Addr} {fd : FuncData} {τ0 : Tn} (FU : L2.Fun K "_law_draw" "_law_draw" s_law_draw f fd) (hlen : mg "len" = none) : FnOk P w K mg base CX0 1 f fd p_law_draw (spD P w K τ0 drawF) := by
  refine L2.Fun.ok FU sc_law_draw (fun vs H Q E h => ?_) fun cdv A outer s H vs Q E hr h => ?_
  · obtain ⟨τ, tw, ds, B, _, _, _, _, _, _, _, dv, h⟩ := h
    obtain ⟨many, rfl, _⟩ := drawF_of h
    rw [dv.len]
    rfl
  · obtain ⟨τ, tw, ds, B, ef, ec, et, eK, t, hT, hS, dv, h⟩ := h
    obtain ⟨many, rfl, m0, m1, m2, m3, q⟩ := drawF_of h
    have hvs : vs = [.ref τ.sa, .ref τ.ta, .int many] := by
      cases dv with
      | cons a1 r1 =>
        cases r1 with
        | cons a2 r2 =>
          cases r2 with
          | cons a3 r3 =>
            cases r3
            have b1 : _ = V.ref τ.sa := a1
            have b2 : _ = V.ref τ.ta := a2
            have b3 := a3.i.int
            rw [b1, b2, b3]
    subst hvs
    have hu : (cxOf CX0 P w K mg base n_law_draw "_law_draw" (defScope s_law_draw) f cdv A outer s H E).nox.A.units + 1 < cLine := by
      have := hr.un
      show (A.deeper (PyProof.Rows.envOfC "_law_draw" (defScope s_law_draw) s.heap.objs.size f cdv)).units + 1 < cLine
      omega
    have hl := hlen
    refine ⟨_, pss_cons (ps_dput hu (pv 1) pe_str (pe_op op_add (pe_dget hu (pv 1) pe_str (fun _ _ => rfl)) pe_int) rfl) <|
      pss_cons (ps_set (i := 3) sc_law_draw.nd rfl (.inl rfl) (pe_ifExp (pt_truth (pv 0) (fun _ => rfl)) (pe_op op_mod (pe_dget hu (pv 1) pe_str (fun _ _ => rfl)) (pe_callB call_len_seq rfl hl PySem.boot_len (pa_cons (pv 0) pa_nil))) pe_int)) <|
      pss_cons (ps_set (i := 4) sc_law_draw.nd rfl (.inl rfl) (pe_dget2 hu (pe_dget hu (pv 1) pe_str (fun _ _ => rfl)) (pv 3) (pe_ifExp (pt_truth (pv 0) (fun _ => rfl)) (pe_ix ix_list (pv 0) (pv 3) (fun _ _ => rfl)) pe_int) ⟨rfl, rfl, rfl, rfl⟩)) <|
      pss_cons (ps_if (pt_cmpR op_ge (pv 4) (pe_op op_pow pe_int pe_int) rfl)
        (pss_cons (ps_dput hu (pe_dget hu (pv 1) pe_str (fun _ _ => rfl)) (pv 3) (pe_op op_fdiv (pv 4) (pv 2)) rfl) (pss_one (ps_ret (pe_op op_mod (pv 4) (pv 2)))))
        pss_nil) <|
      pss_cons (ps_set (i := 5) sc_law_draw.nd rfl (.inl rfl) (pe_op op_mod (pe_op op_add (pv 4) (pe_op op_mul pe_int (pe_dget hu (pv 1) pe_str (fun _ _ => rfl)))) pe_int)) <|
      pss_cons (ps_set (i := 5) sc_law_draw.nd rfl (.inl rfl) (pe_op op_mod (pe_op op_pow (pv 5) pe_int) pe_int)) <|
      pss_one (ps_ret (pe_op op_mod (pe_op op_fdiv (pe_op op_mod (pe_op op_add (pe_op op_mul (pe_op op_fdiv (pv 5) pe_int) pe_int) (pv 5)) pe_int) pe_int) (pv 2))), ?_⟩
    have hs := t.2.2.2.2.seq
    rw [eK] at hs
    have hs1 : SqL K (upd H τ.ta (.dK [(.inr "count", .int (tw.cnt + 1)), (.inr "rests", .ref τ.ra)])) τ.sa (τ.scr.map V.int) := by
      have := (t.count).2.2.2.2.seq
      rw [eK] at this
      exact this
    have t1 := t.count
    have x1 : Xt τ H (upd H τ.ta (.dK [(.inr "count", .int (tw.cnt + 1)), (.inr "rests", .ref τ.ra)])) := xt_count t
    refine ⟨.ref τ.ta, rfl, τ.ta, .int tw.cnt, rfl, dg_count t, tw.cnt, 1, rfl, rfl, .ref τ.ta, rfl, τ.ta, _, rfl, dp_count t, ?_⟩
    generalize upd H τ.ta (.dK [(.inr "count", .int (tw.cnt + 1)), (.inr "rests", .ref τ.ra)]) = H1 at t1 x1 hs1 ⊢
    refine at_ok (s := ⟨tw.cnt + 1, tw.rests⟩) rfl rfl t1 hs1 ?_
    refine ⟨.ref τ.ta, rfl, τ.ta, .ref τ.ra, rfl, dg_rests t1, τ.ra, rfl, .inl ⟨_, .inl t1.2.1⟩, _, rfl, ?_⟩
    refine df_ok (c := tw.cnt + 1) rfl rfl hs1 ?_
    refine ⟨_, dg_rest t1 _, ?_⟩
    rw [getD_map]
    have hrest : (lookR (⟨tw.cnt + 1, tw.rests⟩ : Twn).rests (drawAt τ.scr (tw.cnt + 1))).getD (drawDf τ.scr (drawAt τ.scr (tw.cnt + 1))) = drawRest τ.scr tw := rfl
    rw [hrest]
    refine ⟨_, rfl, 10, 18, rfl, rfl, ⟨by decide, by decide, by decide⟩, _, _, rfl, rfl, _, rfl, ?_⟩
    have hD : ∀ {H' : Hp} {i : Int}, Dv P w K τ B true H' (.int i) (int i) := fun {H' i} => Dv.weak (d := .dat _) (Dr.int i)
    by_cases hb : (10 : Int) ^ 18 ≤ drawRest τ.scr tw
    · have hk : decide ((10 : Int) ^ (18 : Int).toNat ≤ drawRest τ.scr tw) = true := decide_eq_true hb
      rw [hk]
      dsimp only
      rw [if_pos rfl]
      have eV : drawV τ.scr tw many = drawRest τ.scr tw % many := by unfold drawV; rw [if_pos hb]
      have eN : drawN τ.scr tw many = ⟨tw.cnt + 1, putR tw.rests (drawAt τ.scr (tw.cnt + 1)) (drawRest τ.scr tw / many)⟩ := by unfold drawN; rw [if_pos hb]
      refine ⟨_, rfl, _, rfl, drawRest τ.scr tw, many, rfl, rfl, ⟨m0, by omega⟩, .ref τ.ta, rfl, τ.ta, .ref τ.ra, rfl, dg_rests t1, _, rfl, τ.ra, _, rfl, dp_rest t1 m2 _ _, ?_⟩
      refine ⟨_, rfl, _, rfl, drawRest τ.scr tw, many, rfl, rfl, m0, ?_⟩
      have t2 := t1.rest (rs := putR tw.rests (drawAt τ.scr (tw.cnt + 1)) (drawRest τ.scr tw / many))
      rw [eV, eN] at q
      exact q _ (x1.trans (xt_rest t1)) t2 _ hD
    · have hk : decide ((10 : Int) ^ (18 : Int).toNat ≤ drawRest τ.scr tw) = false := decide_eq_false hb
      rw [hk]
      dsimp only
      rw [if_neg Bool.false_ne_true]
      have eV : drawV τ.scr tw many = drawNum (drawRest τ.scr tw) (tw.cnt + 1) many := by unfold drawV; rw [if_neg hb]
      have eN : drawN τ.scr tw many = ⟨tw.cnt + 1, tw.rests⟩ := by unfold drawN; rw [if_neg hb]
      rw [eV, eN] at q
      refine ⟨_, rfl, .ref τ.ta, rfl, τ.ta, .int (tw.cnt + 1), rfl, dg_count t1, 104729, tw.cnt + 1, rfl, rfl, .inl ⟨by decide, by decide⟩, drawRest τ.scr tw, _, rfl, rfl, _, _, rfl, rfl, (by decide : (0 : Int) < 4294967291), ?_⟩
      have b1 : 0 ≤ (drawRest τ.scr tw + 104729 * (tw.cnt + 1)) % 4294967291 := Int.emod_nonneg _ (by decide)
      have b2 : (drawRest τ.scr tw + 104729 * (tw.cnt + 1)) % 4294967291 < 4294967291 := Int.emod_lt_of_pos _ (by decide)
      refine ⟨_, rfl, _, 5, rfl, rfl, ⟨by decide, by decide, by omega⟩, _, _, rfl, rfl, (by decide : (0 : Int) < 4294967279), ?_⟩
      refine ⟨_, rfl, _, 64, rfl, rfl, ⟨by decide, by decide⟩, _, 69621, rfl, rfl, .inr ⟨by decide, by decide⟩, _, rfl, _, _, rfl, rfl, _, _, rfl, rfl, (by decide : (0 : Int) < 4294967231), _, 8, rfl, rfl, ⟨by decide, by decide⟩, _, rfl, _, many, rfl, rfl, m0, ?_⟩
      exact q _ x1 t1 _ hD
end
end K01
set_option Elab.async false
set_option linter.all false
set_option maxRecDepth 100000
/-! Evaluation by hand: one rule for each form. -/
namespace BK
open PySem
theorem bind_eq {α β : Type} (x : M α) (f : α → M β) : (x >>= f) = M.bnd x f := rfl
theorem bnd_okW {α β : Type} {x : M α} {f : α → M β} {s s' : Twn} {a : α} (h : x s = .ok a s') : M.bnd x f s = f a s' := by
  unfold M.bnd
  rw [h]
theorem of_ok {α : Type} {o : Option α} {a : α} {s : Twn} (h : o = some a) : M.of o s = .ok a s := by
  rw [h]
  rfl
/-- one after the other -/
theorem b_ok {α β : Type} {x : M α} {f : α → M β} {s s1 : Twn} {a : α} {r : Res β} (h : x s = .ok a s1) (h2 : f a s1 = r) : M.bnd x f s = r := by
  rw [bnd_okW h]
  exact h2
theorem dat_ok {d : PyData} {s : Twn} : datOf (.dat d) s = .ok d s := rfl
theorem int_ok {i : Int} {s : Twn} : intOf (int i) s = .ok i s := rfl
theorem tru_ok {b : Bool} {s : Twn} : truth (bl b) s = .ok b s := rfl
theorem if_ok {α : Type} {c : Prop} [Decidable c] {x y : M α} {s : Twn} {r : Res α} (h : c) (h2 : x s = r) : (if c then x else y) s = r := by
  rw [if_pos h]
  exact h2
theorem if_no {α : Type} {c : Prop} [Decidable c] {x y : M α} {s : Twn} {r : Res α} (h : ¬ c) (h2 : y s = r) : (if c then x else y) s = r := by
  rw [if_neg h]
  exact h2
variable {G : Nat → Fun} {fu : Nat} {md : Bool} {env env' : Env} {s s1 s2 s3 : Twn}
theorem e_cst {d : PyData} : ev G md (.cst d) env s = .ok (.dat d) s := rfl
theorem e_gcon {x : Str} {d : PyData} : ev G md (.gcon x d) env s = .ok (.dat d) s := rfl
theorem e_fnc {i : Nat} : ev G md (.fnc i) env s = .ok (.fn i) s := rfl
theorem e_var {i : Nat} {d : D} (h : env[i]? = some (some (false, d))) : ev G md (.var i) env s = .ok d s := by
  simp only [ev, h, Bool.and_false]
  rfl
theorem e_varO {i : Nat} {o : Bool} {d : D} (h : env[i]? = some (some (o, d))) : ev G false (.var i) env s = .ok d s := by
  simp only [ev, h, Bool.false_and]
  rfl
theorem e_tup {es : CEs} {ds : List D} {ps : List PyData} (h : evs G es env s = .ok ds s1) (h2 : datL ds = some ps) (h3 : fits ps = true) : ev G md (.tup es) env s = .ok (tup ps) s1 := by
  simp only [ev, bind_eq]
  exact b_ok h (b_ok (of_ok h2) (if_ok h3 rfl))
theorem e_lst {es : CEs} {ds : List D} {ps : List PyData} (h : evs G es env s = .ok ds s1) (h2 : datL ds = some ps) (h3 : fits ps = true) : ev G md (.lst es) env s = .ok (lst ps) s1 := by
  simp only [ev, bind_eq]
  exact b_ok h (b_ok (of_ok h2) (if_ok h3 rfl))
theorem es_nil : evs G .nil env s = .ok [] s := rfl
theorem es_cons {e : CE} {r : CEs} {x : D} {xs : List D} (h1 : ev G true e env s = .ok x s1) (h2 : evs G r env s1 = .ok xs s2) : evs G (.cons e r) env s = .ok (x :: xs) s2 := by
  simp only [evs, bind_eq]
  exact b_ok h1 (b_ok h2 rfl)
theorem e_bin {o : BO} {a b : CE} {x y r : D} (h1 : ev G false a env s = .ok x s1) (h2 : ev G false b env s1 = .ok y s2) (h3 : opBin o x y = some r) : ev G md (.bin o a b) env s = .ok r s2 := by
  simp only [ev, bind_eq]
  exact b_ok h1 (b_ok h2 (of_ok h3))
theorem e_neg {a : CE} {i : Int} (h : ev G false a env s = .ok (int i) s1) : ev G md (.neg a) env s = .ok (int (-i)) s1 := by
  simp only [ev, bind_eq]
  exact b_ok h (b_ok int_ok rfl)
theorem e_cmp {o : CO} {a b : CE} {x y : D} {r : Bool} (h1 : ev G false a env s = .ok x s1) (h2 : ev G false b env s1 = .ok y s2) (h3 : opCmp o x y = some r) : ev G md (.cmp o a b) env s = .ok (bl r) s2 := by
  simp only [ev, bind_eq]
  exact b_ok h1 (b_ok h2 (b_ok (of_ok h3) rfl))
theorem e_isN {a : CE} {d : PyData} {b : Bool} (h : ev G false a env s = .ok (.dat d) s1) (h2 : (isNon d) = b) : ev G md (.isN a) env s = .ok (bl b) s1 := by
  simp only [ev, bind_eq]
  rw [← h2]
  exact b_ok h (b_ok dat_ok rfl)
theorem e_notN {a : CE} {d : PyData} {b : Bool} (h : ev G false a env s = .ok (.dat d) s1) (h2 : (!isNon d) = b) : ev G md (.notN a) env s = .ok (bl b) s1 := by
  simp only [ev, bind_eq]
  rw [← h2]
  exact b_ok h (b_ok dat_ok rfl)
theorem e_chn {a b c : CE} {i j k : Int} (h1 : ev G false a env s = .ok (int i) s1) (h2 : ev G false b env s1 = .ok (int j) s2) (h3 : ev G false c env s2 = .ok (int k) s2) : ev G md (.chn a b c) env s = .ok (bl (decide (i ≤ j) && decide (j ≤ k))) s2 := by
  simp only [ev, bind_eq]
  refine b_ok h1 (b_ok int_ok (b_ok h2 (b_ok int_ok ?_)))
  by_cases hc : i ≤ j
  · refine if_ok hc (b_ok h3 (b_ok int_ok ?_))
    rw [decide_eq_true hc, Bool.true_and]
    rfl
  · refine if_no hc ?_
    rw [decide_eq_false hc, Bool.false_and]
    rfl
theorem e_and {es : CEs} {r : Bool} (h : evAnd G es env s = .ok r s1) : ev G md (.and es) env s = .ok (bl r) s1 := by
  simp only [ev, bind_eq]
  exact b_ok h rfl
theorem e_or {es : CEs} {r : Bool} (h : evOr G es env s = .ok r s1) : ev G md (.or es) env s = .ok (bl r) s1 := by
  simp only [ev, bind_eq]
  exact b_ok h rfl
theorem an_nil : evAnd G .nil env s = .ok true s := rfl
theorem an_t {e : CE} {r : CEs} {b : Bool} (h1 : ev G true e env s = .ok (bl true) s1) (h2 : evAnd G r env s1 = .ok b s2) : evAnd G (.cons e r) env s = .ok b s2 := by
  simp only [evAnd, bind_eq]
  exact b_ok h1 (b_ok tru_ok (if_ok rfl h2))
theorem an_f {e : CE} {r : CEs} (h1 : ev G true e env s = .ok (bl false) s1) : evAnd G (.cons e r) env s = .ok false s1 := by
  simp only [evAnd, bind_eq]
  exact b_ok h1 (b_ok tru_ok (if_no Bool.false_ne_true rfl))
/-- the rest is whole, whatever the first -/
theorem an_c {e : CE} {r : CEs} {b c : Bool} (h1 : ev G true e env s = .ok (bl b) s1) (h2 : evAnd G r env s1 = .ok c s1) : evAnd G (.cons e r) env s = .ok (b && c) s1 := by
  cases b with
  | true => exact an_t h1 h2
  | false => exact an_f h1
theorem or_nil : evOr G .nil env s = .ok false s := rfl
theorem or_t {e : CE} {r : CEs} (h1 : ev G true e env s = .ok (bl true) s1) : evOr G (.cons e r) env s = .ok true s1 := by
  simp only [evOr, bind_eq]
  exact b_ok h1 (b_ok tru_ok (if_ok rfl rfl))
theorem or_f {e : CE} {r : CEs} {b : Bool} (h1 : ev G true e env s = .ok (bl false) s1) (h2 : evOr G r env s1 = .ok b s2) : evOr G (.cons e r) env s = .ok b s2 := by
  simp only [evOr, bind_eq]
  exact b_ok h1 (b_ok tru_ok (if_no Bool.false_ne_true h2))
theorem or_c {e : CE} {r : CEs} {b c : Bool} (h1 : ev G true e env s = .ok (bl b) s1) (h2 : evOr G r env s1 = .ok c s1) : evOr G (.cons e r) env s = .ok (b || c) s1 := by
  cases b with
  | true => exact or_t h1
  | false => exact or_f h1 h2
theorem e_not {a : CE} {b c : Bool} (h : ev G true a env s = .ok (bl b) s1) (h2 : (!b) = c) : ev G md (.not a) env s = .ok (bl c) s1 := by
  simp only [ev, bind_eq]
  rw [← h2]
  exact b_ok h (b_ok tru_ok rfl)
theorem e_iteT {c a b : CE} {d : D} (h : ev G true c env s = .ok (bl true) s1) (h2 : ev G md a env s1 = .ok d s2) : ev G md (.ite c a b) env s = .ok d s2 := by
  simp only [ev, bind_eq]
  exact b_ok h (b_ok tru_ok (if_ok rfl h2))
theorem e_iteF {c a b : CE} {d : D} (h : ev G true c env s = .ok (bl false) s1) (h2 : ev G md b env s1 = .ok d s2) : ev G md (.ite c a b) env s = .ok d s2 := by
  simp only [ev, bind_eq]
  exact b_ok h (b_ok tru_ok (if_no Bool.false_ne_true h2))
theorem e_idx {a b : CE} {x y r : D} (h1 : ev G false a env s = .ok x s1) (h2 : ev G false b env s1 = .ok y s2) (h3 : opIdx x y = some r) : ev G md (.idx a b) env s = .ok r s2 := by
  simp only [ev, bind_eq]
  exact b_ok h1 (b_ok h2 (of_ok h3))
theorem e_slL {a lo : CE} {x r : D} {i : Int} (h1 : ev G false a env s = .ok x s1) (h2 : ev G false lo env s1 = .ok (int i) s2) (h3 : opCut x (some i) none = some r) : ev G md (.slL a lo) env s = .ok r s2 := by
  simp only [ev, bind_eq]
  exact b_ok h1 (b_ok h2 (b_ok int_ok (of_ok h3)))
theorem e_slH {a lo : CE} {x r : D} {i : Int} (h1 : ev G false a env s = .ok x s1) (h2 : ev G false lo env s1 = .ok (int i) s2) (h3 : opCut x none (some i) = some r) : ev G md (.slH a lo) env s = .ok r s2 := by
  simp only [ev, bind_eq]
  exact b_ok h1 (b_ok h2 (b_ok int_ok (of_ok h3)))
theorem e_call {f : Nat} {es : CEs} {ds : List D} {d : D} (h1 : evs G es env s = .ok ds s1) (h2 : G f ds s1 = .ok d s2) : ev G md (.call f es) env s = .ok d s2 := by
  simp only [ev, bind_eq]
  exact b_ok h1 h2
theorem e_p1 {p : P1} {a : CE} {x r : D} (h1 : ev G false a env s = .ok x s1) (h2 : opP1 p x = some r) : ev G md (.p1 p a) env s = .ok r s1 := by
  simp only [ev, bind_eq]
  exact b_ok h1 (of_ok h2)
theorem e_isi {a : CE} {t : Ty} {d : PyData} {b : Bool} (h1 : ev G false a env s = .ok (.dat d) s1) (h2 : isTy t d = b) : ev G md (.isi a t) env s = .ok (bl b) s1 := by
  simp only [ev, bind_eq]
  rw [← h2]
  exact b_ok h1 (b_ok dat_ok rfl)
theorem e_lset {a : CE} {x r : D} (h1 : ev G false a env s = .ok x s1) (h2 : opLset x = some r) : ev G md (.lset a) env s = .ok r s1 := by
  simp only [ev, bind_eq]
  exact b_ok h1 (of_ok h2)
theorem e_lc {own : List Nat} {tg : Tg} {it : CI} {elt : CE} {xs r : List PyData} (h1 : evI G false it env s = .ok xs s1) (h2 : ownFree env own = true)
    (h3 : lcGo (fun x => M.nox (do
        let e ← M.of (bindTg tg x (wipeE env own))
        let y ← datOf (← ev G true elt e)
        M.ret (some y))) xs s1 = .ok r s2) (h4 : fits r = true) : ev G md (.lc own tg it elt) env s = .ok (lst r) s2 := by
  simp only [ev, bind_eq]
  exact b_ok h1 (if_ok h2 (b_ok h3 (if_ok h4 rfl)))
/-- turn for turn, by a function -/
theorem go_map {turn : PyData → M (Option PyData)} {f : PyData → PyData} : ∀ {xs : List PyData}, (∀ x ∈ xs, turn x s = .ok (some (f x)) s) → lcGo turn xs s = .ok (xs.map f) s
  | [], _ => rfl
  | x :: xs, h => by
    have ih := go_map (turn := turn) (f := f) (xs := xs) fun y hy => h y (List.mem_cons_of_mem _ hy)
    unfold lcGo
    simp only [bind_eq]
    exact b_ok (h x List.mem_cons_self) (b_ok ih rfl)
theorem go_mapG {α : Type} {g : α → PyData} {turn : PyData → M (Option PyData)} {f : α → PyData} : ∀ {xs : List α}, (∀ x ∈ xs, turn (g x) s = .ok (some (f x)) s) → lcGo turn (xs.map g) s = .ok (xs.map f) s
  | [], _ => rfl
  | x :: xs, h => by
    have ih := go_mapG (g := g) (turn := turn) (f := f) (xs := xs) fun y hy => h y (List.mem_cons_of_mem _ hy)
    rw [List.map_cons]
    unfold lcGo
    simp only [bind_eq]
    exact b_ok (h x List.mem_cons_self) (b_ok ih rfl)
theorem nox_ok {α : Type} {x : M α} {a : α} (h : x s = .ok a s1) : M.nox x s = .ok a s1 := by
  unfold M.nox
  rw [h]
theorem lc_turn {own : List Nat} {tg : Tg} {elt : CE} {x y : PyData} (h1 : bindTg tg x (wipeE env own) = some env') (h2 : ev G true elt env' s = .ok (.dat y) s1) :
    M.nox (do
        let e ← M.of (bindTg tg x (wipeE env own))
        let y ← datOf (← ev G true elt e)
        M.ret (some y)) s = .ok (some y) s1 := by
  refine nox_ok ?_
  simp only [bind_eq]
  exact b_ok (of_ok h1) (b_ok h2 (b_ok dat_ok rfl))
theorem i_seq {e : CE} {x : D} {ds : List PyData} (h1 : ev G md e env s = .ok x s1) (h2 : seqOf x = some ds) : evI G md (.seq e) env s = .ok ds s1 := by
  simp only [evI, bind_eq]
  exact b_ok h1 (of_ok h2)
theorem i_rng {e : CE} {n : Int} (h1 : ev G true e env s = .ok (int n) s1) (h2 : n ≤ 1000 ∧ -1000 ≤ n) : evI G md (.rng e) env s = .ok (rngD n) s1 := by
  simp only [evI, bind_eq]
  exact b_ok h1 (b_ok int_ok (if_ok h2 rfl))
/-! ### statements -/
theorem x_asg {i : Nat} {e : CE} {d : D} (h : ev G true e env s = .ok d s1) : ex G fu (.asg (.v i) e) env s = .ok (.nx (setE env i d)) s1 := by
  simp only [ex, bind_eq]
  exact b_ok h rfl
theorem x_own {i : Nat} {e : CE} {d : D} (h : ev G true e env s = .ok d s1) : ex G fu (.own i e) env s = .ok (.nx (env.set i (some (true, d)))) s1 := by
  simp only [ex, bind_eq]
  exact b_ok h rfl
theorem x_par {is : List (Bool × Nat)} {es : CEs} {ds : List D} (h : evs G es env s = .ok ds s1) (hl : ds.length = is.length) : ex G fu (.par is es) env s = .ok (.nx (parE is ds env)) s1 := by
  simp only [ex, bind_eq]
  exact b_ok h (if_ok hl rfl)
theorem x_sto {i : Nat} {k e : CE} {d y : PyData} {m m' : D} (h1 : ev G true e env s = .ok (.dat d) s1) (h2 : ownD env i = some m) (h3 : ev G true k env s1 = .ok (.dat y) s2) (h4 : stoD m y d = some m') : ex G fu (.sto i k e) env s = .ok (.nx (env.set i (some (true, m')))) s2 := by
  simp only [ex, bind_eq]
  exact b_ok h1 (b_ok dat_ok (b_ok (of_ok h2) (b_ok h3 (b_ok dat_ok (b_ok (of_ok h4) rfl)))))
theorem x_ext {i : Nat} {e : CE} {xs ys : List PyData} (h2 : ownL env i = some xs) (h1 : ev G true e env s = .ok (lst ys) s1) (h4 : xs.length + ys.length ≤ sizeLine) : ex G fu (.ext i e) env s = .ok (.nx (env.set i (some (true, lst (xs ++ ys))))) s1 := by
  simp only [ex, bind_eq]
  exact b_ok (of_ok h2) (b_ok h1 (b_ok (of_ok rfl) (if_ok h4 rfl)))
theorem x_iffT {c : CE} {a b : CSs} {r : Res Fl} (h : ev G true c env s = .ok (bl true) s1) (h2 : exs G fu a env s1 = r) : ex G fu (.iff c a b) env s = r := by
  simp only [ex, bind_eq]
  exact b_ok h (b_ok tru_ok (if_ok rfl h2))
theorem x_iffF {c : CE} {a b : CSs} {r : Res Fl} (h : ev G true c env s = .ok (bl false) s1) (h2 : exs G fu b env s1 = r) : ex G fu (.iff c a b) env s = r := by
  simp only [ex, bind_eq]
  exact b_ok h (b_ok tru_ok (if_no Bool.false_ne_true h2))
theorem x_ret {e : CE} {d : D} (h : ev G true e env s = .ok d s1) : ex G fu (.ret e) env s = .ok (.rt d) s1 := by
  simp only [ex, bind_eq]
  exact b_ok h rfl
theorem x_exp {e : CE} {d : D} (h : ev G true e env s = .ok d s1) : ex G fu (.exp e) env s = .ok (.nx env) s1 := by
  simp only [ex, bind_eq]
  exact b_ok h rfl
theorem x_frz {is : List Nat} : ex G fu (.frz is) env s = .ok (.nx (frzE env is)) s := rfl
theorem x_for {tg : Tg} {it : CI} {body : CSs} {xs : List PyData} {r : Res Fl} (h : evI G true it env s = .ok xs s1) (h2 : forGo (fun x env => do
      let env' ← M.of (bindTg tg x env)
      exs G fu body env') xs env s1 = r) : ex G fu (.for tg it body) env s = r := by
  simp only [ex, bind_eq]
  exact b_ok h h2
theorem xs_nil : exs G fu .nil env s = .ok (.nx env) s := rfl
theorem xs_nx {c : CS} {r : CSs} {q : Res Fl} (h1 : ex G fu c env s = .ok (.nx env') s1) (h2 : exs G fu r env' s1 = q) : exs G fu (.cons c r) env s = q := by
  simp only [exs, bind_eq]
  exact b_ok h1 h2
theorem xs_rt {c : CS} {r : CSs} {d : D} (h1 : ex G fu c env s = .ok (.rt d) s1) : exs G fu (.cons c r) env s = .ok (.rt d) s1 := by
  simp only [exs, bind_eq]
  exact b_ok h1 rfl
/-- one statement that goes on or returns -/
theorem xs_one {c : CS} {q : Res Fl} (h1 : ex G fu c env s = q) (hq : ∀ c s, q ≠ .exc c s) : exs G fu (.cons c .nil) env s = q := by
  simp only [exs, bind_eq]
  unfold M.bnd
  rw [h1]
  cases q with
  | ok fl s' => cases fl <;> rfl
  | exc c s' => exact absurd rfl (hq c s')
  | stuck => rfl
/-- the loop, without a return: an invariant by the turn, the state may move -/
theorem for_inv {turn : PyData → Env → M Fl} {xs : List PyData} (I : Nat → Env → Twn → Prop) (h0 : I 0 env s) (hs : ∀ i x env s, xs[i]? = some x → I i env s → ∃ env' s', turn x env s = .ok (.nx env') s' ∧ I (i + 1) env' s') :
    ∃ env' s', forGo turn xs env s = .ok (.nx env') s' ∧ I xs.length env' s' := by
  induction xs generalizing env s I with
  | nil => exact ⟨env, s, rfl, h0⟩
  | cons x xs ih =>
    obtain ⟨env1, s1, h1, i1⟩ := hs 0 x env s rfl h0
    obtain ⟨env2, s2, h2, i2⟩ := ih (fun i => I (i + 1)) i1 fun i y env s hy hi => hs (i + 1) y env s (by simpa using hy) hi
    refine ⟨env2, s2, ?_, i2⟩
    unfold forGo
    simp only [bind_eq]
    exact b_ok h1 h2
/-- the first turn that returns; all before it go on and leave I -/
theorem for_find {α : Type} {g : α → PyData} {turn : PyData → Env → M Fl} {p : α → Bool} {res : α → D} (I : Env → Prop) : ∀ {xs : List α} {env : Env}, I env → (∀ x ∈ xs, ∀ env, I env → (p x = true → turn (g x) env s = .ok (.rt (res x)) s) ∧ (p x = false → ∃ env', turn (g x) env s = .ok (.nx env') s ∧ I env')) →
    (∀ x, xs.find? p = some x → forGo turn (xs.map g) env s = .ok (.rt (res x)) s) ∧ (xs.find? p = none → ∃ env', forGo turn (xs.map g) env s = .ok (.nx env') s ∧ I env')
  | [], env, h0, _ => ⟨fun x h => by simp at h, fun _ => ⟨env, rfl, h0⟩⟩
  | x :: xs, env, h0, hs => by
    obtain ⟨a1, a2⟩ := hs x List.mem_cons_self env h0
    cases hp : p x with
    | true =>
      refine ⟨fun y hy => ?_, fun hn => ?_⟩
      · rw [List.find?_cons, hp] at hy
        cases hy
        rw [List.map_cons]
        unfold forGo
        simp only [bind_eq]
        exact b_ok (a1 hp) rfl
      · rw [List.find?_cons, hp] at hn
        cases hn
    | false =>
      obtain ⟨env1, h1, i1⟩ := a2 hp
      obtain ⟨b1, b2⟩ := for_find (turn := turn) (p := p) (res := res) I (xs := xs) i1 fun y hy => hs y (List.mem_cons_of_mem _ hy)
      refine ⟨fun y hy => ?_, fun hn => ?_⟩
      · rw [List.find?_cons, hp] at hy
        rw [List.map_cons]
        unfold forGo
        simp only [bind_eq]
        exact b_ok h1 (b1 y hy)
      · rw [List.find?_cons, hp] at hn
        obtain ⟨env2, h2, i2⟩ := b2 hn
        refine ⟨env2, ?_, i2⟩
        rw [List.map_cons]
        unfold forGo
        simp only [bind_eq]
        exact b_ok h1 h2
/-! ### more forms -/
theorem e_sl2 {a lo hi : CE} {x r : D} {i j : Int} (h1 : ev G false a env s = .ok x s1) (h2 : ev G false lo env s1 = .ok (int i) s2) (h4 : ev G false hi env s2 = .ok (int j) s3) (h3 : opCut x (some i) (some j) = some r) : ev G md (.sl2 a lo hi) env s = .ok r s3 := by
  simp only [ev, bind_eq]
  exact b_ok h1 (b_ok h2 (b_ok int_ok (b_ok h4 (b_ok int_ok (of_ok h3)))))
theorem e_slR {a : CE} {x r : D} (h1 : ev G false a env s = .ok x s1) (h2 : opRev x = some r) : ev G md (.slR a) env s = .ok r s1 := by
  simp only [ev, bind_eq]
  exact b_ok h1 (of_ok h2)
theorem e_ssort {a : CE} {x : D} {r : List PyData} (h1 : ev G false a env s = .ok x s1) (h2 : opSet x = some r) : ev G md (.ssort a) env s = .ok (lst r) s1 := by
  simp only [ev, bind_eq]
  exact b_ok h1 (b_ok (of_ok h2) rfl)
theorem e_dke {a : CE} {x : D} {r : List (L2.Key × PyData)} (h1 : ev G false a env s = .ok x s1) (h2 : opDict x = some r) : ev G md (.dke a) env s = .ok (.dK r) s1 := by
  simp only [ev, bind_eq]
  exact b_ok h1 (b_ok (of_ok h2) rfl)
theorem e_lenum {a : CE} {ds : List PyData} (h1 : ev G false a env s = .ok (tup ds) s1) (h2 : ds.length ≤ 1000) : ev G md (.lenum a) env s = .ok (lst (enumFrom' 0 ds)) s1 := by
  simp only [ev, bind_eq]
  exact b_ok h1 (if_ok h2 rfl)
theorem e_lrng {a : CE} {n : Int} (h1 : ev G false a env s = .ok (int n) s1) (h2 : 0 ≤ n ∧ n ≤ 1000) : ev G md (.lrng a) env s = .ok (lst (rngD n)) s1 := by
  simp only [ev, bind_eq]
  exact b_ok h1 (b_ok int_ok (if_ok h2 rfl))
theorem e_trng {a : CE} {n : Int} (h1 : ev G false a env s = .ok (int n) s1) (h2 : 0 ≤ n ∧ n ≤ 1000) : ev G md (.trng a) env s = .ok (tup (rngD n)) s1 := by
  simp only [ev, bind_eq]
  exact b_ok h1 (b_ok int_ok (if_ok h2 rfl))
theorem e_dget {d k x : CE} {kvs : List (NestedKey × PyData)} {y z : PyData} {kk : NestedKey} (h1 : ev G false d env s = .ok (.dT kvs) s1) (h2 : ev G true k env s1 = .ok (.dat y) s2) (h3 : ev G true x env s2 = .ok (.dat z) s3) (h4 : nkey y = some kk) :
    ev G md (.dget d k x) env s = .ok (.dat ((lookT kvs kk).getD z)) s3 := by
  simp only [ev, bind_eq]
  exact b_ok h1 (b_ok (show dTOf (.dT kvs) s1 = .ok kvs s1 from rfl) (b_ok h2 (b_ok dat_ok (b_ok h3 (b_ok dat_ok (b_ok (of_ok h4) rfl))))))
theorem e_dnew : ev G md .dnew env s = .ok (.dT []) s := rfl
theorem e_done {k v : CE} {y z : PyData} {kk : NestedKey} (h2 : ev G true k env s = .ok (.dat y) s1) (h3 : ev G true v env s1 = .ok (.dat z) s2) (h4 : nkey y = some kk) : ev G md (.done k v) env s = .ok (.dT [(kk, z)]) s2 := by
  simp only [ev, bind_eq]
  exact b_ok h2 (b_ok dat_ok (b_ok h3 (b_ok dat_ok (b_ok (of_ok h4) rfl))))
theorem e_min2 {a b : CE} {i j : Int} (h1 : ev G true a env s = .ok (int i) s1) (h2 : ev G true b env s1 = .ok (int j) s2) : ev G md (.min2 a b) env s = .ok (int (if j < i then j else i)) s2 := by
  simp only [ev, bind_eq]
  exact b_ok h1 (b_ok int_ok (b_ok h2 (b_ok int_ok rfl)))
theorem i_enum {e : CE} {ds : List PyData} (h1 : ev G true e env s = .ok (tup ds) s1) : evI G md (.enum e) env s = .ok (enumFrom' 0 ds) s1 := by
  simp only [evI, bind_eq]
  exact b_ok h1 rfl
theorem i_zip {a b : CE} {xs ys : List PyData} (h1 : ev G true a env s = .ok (tup xs) s1) (h2 : ev G true b env s1 = .ok (tup ys) s2) : evI G md (.zip a b) env s = .ok (zipD xs ys) s2 := by
  simp only [evI, bind_eq]
  exact b_ok h1 (b_ok h2 rfl)
theorem i_keys {e : CE} {kvs : List (NestedKey × PyData)} (h1 : ev G md e env s = .ok (.dT kvs) s1) : evI G md (.keys e) env s = .ok (kvs.map fun p => p.1.data) s1 := by
  simp only [evI, bind_eq]
  exact b_ok h1 rfl
/-- one turn of a comprehension with a test -/
def ifTurn (G : Nat → Fun) (own : List Nat) (tg : Tg) (cond elt : CE) (env : Env) (x : PyData) : M (Option PyData) := M.nox (do
        let e ← M.of (bindTg tg x (wipeE env own))
        if ← truth (← ev G true cond e) then (do let y ← datOf (← ev G true elt e); M.ret (some y)) else M.ret none)
theorem e_lcIf {own : List Nat} {tg : Tg} {it : CI} {cond elt : CE} {xs r : List PyData} (h1 : evI G false it env s = .ok xs s1) (h2 : ownFree env own = true) (h3 : lcGo (ifTurn G own tg cond elt env) xs s1 = .ok r s2) (h4 : fits r = true) : ev G md (.lcIf own tg it cond elt) env s = .ok (lst r) s2 := by
  simp only [ev, bind_eq]
  exact b_ok h1 (if_ok h2 (b_ok h3 (if_ok h4 rfl)))
theorem if_turn {own : List Nat} {tg : Tg} {cond elt : CE} {x y : PyData} (h1 : bindTg tg x (wipeE env own) = some env') (h2 : ev G true cond env' s = .ok (bl true) s1) (h3 : ev G true elt env' s1 = .ok (.dat y) s2) : ifTurn G own tg cond elt env x s = .ok (some y) s2 := by
  refine nox_ok ?_
  simp only [bind_eq]
  exact b_ok (of_ok h1) (b_ok h2 (b_ok tru_ok (if_ok rfl (b_ok h3 (b_ok dat_ok rfl)))))
theorem if_turnN {own : List Nat} {tg : Tg} {cond elt : CE} {x : PyData} (h1 : bindTg tg x (wipeE env own) = some env') (h2 : ev G true cond env' s = .ok (bl false) s1) : ifTurn G own tg cond elt env x s = .ok none s1 := by
  refine nox_ok ?_
  simp only [bind_eq]
  exact b_ok (of_ok h1) (b_ok h2 (b_ok tru_ok (if_no Bool.false_ne_true rfl)))
/-- turn for turn, with a test -/
theorem go_filt {α : Type} {g : α → PyData} {turn : PyData → M (Option PyData)} {f : α → PyData} {p : α → Bool} : ∀ {xs : List α}, (∀ x ∈ xs, turn (g x) s = .ok (if p x then some (f x) else none) s) → lcGo turn (xs.map g) s = .ok ((xs.filter p).map f) s
  | [], _ => rfl
  | x :: xs, h => by
    have ih := go_filt (g := g) (turn := turn) (f := f) (p := p) (xs := xs) fun y hy => h y (List.mem_cons_of_mem _ hy)
    rw [List.map_cons]
    unfold lcGo
    simp only [bind_eq]
    refine b_ok (h x List.mem_cons_self) (b_ok ih ?_)
    rw [List.filter_cons]
    cases p x <;> rfl
theorem x_asgT {ts : List Tg} {e : CE} {d : PyData} (h : ev G true e env s = .ok (.dat d) s1) (h2 : bindTg (.t ts) d env = some env') : ex G fu (.asg (.t ts) e) env s = .ok (.nx env') s1 := by
  simp only [ex, bind_eq]
  exact b_ok h (b_ok dat_ok (b_ok (of_ok h2) rfl))
theorem x_app {i : Nat} {e : CE} {xs : List PyData} {d : PyData} (h2 : ownL env i = some xs) (h1 : ev G true e env s = .ok (.dat d) s1) (h4 : xs.length < sizeLine) : ex G fu (.app i e) env s = .ok (.nx (env.set i (some (true, lst (xs ++ [d]))))) s1 := by
  simp only [ex, bind_eq]
  exact b_ok (of_ok h2) (b_ok h1 (b_ok dat_ok (if_ok h4 rfl)))
theorem x_whl {c : CE} {body : CSs} {r : Res Fl} (h : whGo (fun env => do truth (← ev G true c env)) (fun env => exs G fu body env) fu env s = r) : ex G fu (.whl c body) env s = r := by
  simp only [ex, bind_eq]
  exact h
theorem wh_go {c : Env → M Bool} {body : Env → M Fl} {n : Nat} {r : Res Fl} (h : c env s = .ok true s1) (h2 : body env s1 = .ok (.nx env') s2) (h3 : whGo c body n env' s2 = r) : whGo c body (n + 1) env s = r := by
  unfold whGo
  simp only [bind_eq]
  exact b_ok h (if_ok rfl (b_ok h2 h3))
theorem wh_stop {c : Env → M Bool} {body : Env → M Fl} {n : Nat} (h : c env s = .ok false s1) : whGo c body (n + 1) env s = .ok (.nx env) s1 := by
  unfold whGo
  simp only [bind_eq]
  exact b_ok h (if_no Bool.false_ne_true rfl)
theorem wh_c {c : CE} {b : Bool} (h : ev G true c env s = .ok (bl b) s1) : (do truth (← ev G true c env) : M Bool) s = .ok b s1 := b_ok h tru_ok
theorem x_iffB {c : CE} {a b : CSs} {r : Res Fl} {t : Bool} (h : ev G true c env s = .ok (bl t) s1) (h2 : (if t = true then exs G fu a env s1 else exs G fu b env s1) = r) : ex G fu (.iff c a b) env s = r := by
  cases t with
  | true => exact x_iffT h (by rw [if_pos rfl] at h2; exact h2)
  | false => exact x_iffF h (by rw [if_neg Bool.false_ne_true] at h2; exact h2)
theorem e_iteB {c a b : CE} {t : Bool} {r : Res D} (h : ev G true c env s = .ok (bl t) s1) (h2 : (if t = true then ev G md a env s1 else ev G md b env s1) = r) : ev G md (.ite c a b) env s = r := by
  simp only [ev, bind_eq]
  refine b_ok h (b_ok tru_ok ?_)
  cases t with
  | true => exact if_ok rfl (by rw [if_pos rfl] at h2; exact h2)
  | false => exact if_no Bool.false_ne_true (by rw [if_neg Bool.false_ne_true] at h2; exact h2)
/-- a def -/
theorem r_fn {f : CF} {ds : List D} {d : D} (hl : ds.length = f.np) (h : exs G fu f.body (ds.map (fun d => some (false, d)) ++ List.replicate (f.ns - f.np) none) s = .ok (.rt d) s1) : runF G fu f ds s = .ok d s1 := by
  unfold runF
  rw [if_pos hl]
  simp only [bind_eq]
  exact b_ok h rfl
theorem r_fnN {f : CF} {ds : List D} (hl : ds.length = f.np) (h : exs G fu f.body (ds.map (fun d => some (false, d)) ++ List.replicate (f.ns - f.np) none) s = .ok (.nx env) s1) : runF G fu f ds s = .ok non s1 := by
  unfold runF
  rw [if_pos hl]
  simp only [bind_eq]
  exact b_ok h rfl
/-- what comes after a statement -/
def contR (G : Nat → Fun) (fu : Nat) (r : CSs) : Res Fl → Res Fl
  | .ok (.nx env) s => exs G fu r env s
  | x => x
theorem xs_b {c : CS} {r : CSs} {q x : Res Fl} (h1 : ex G fu c env s = q) (h2 : contR G fu r q = x) : exs G fu (.cons c r) env s = x := by
  simp only [exs, bind_eq]
  unfold M.bnd
  rw [h1, ← h2]
  cases q with
  | ok fl s' => cases fl <;> rfl
  | exc c s' => rfl
  | stuck => rfl
theorem ct_rt {r : CSs} {d : D} : contR G fu r (.ok (.rt d) s) = .ok (.rt d) s := rfl
theorem ct_nx {r : CSs} {x : Res Fl} (h : exs G fu r env s = x) : contR G fu r (.ok (.nx env) s) = x := h
theorem ct_ex {r : CSs} {c : Nat} : contR G fu r (.exc c s) = .exc c s := rfl
theorem ifT {α : Type} {b : Bool} {x y r : α} (h : b = true) (h2 : x = r) : (if b = true then x else y) = r := by rw [if_pos h]; exact h2
theorem ifF {α : Type} {b : Bool} {x y r : α} (h : b = false) (h2 : y = r) : (if b = true then x else y) = r := by rw [if_neg (by rw [h]; exact Bool.false_ne_true)]; exact h2
/-- a def, its value in other words -/
theorem r_fnE {f : CF} {ds : List D} {d d' : D} (hl : ds.length = f.np) (h : exs G fu f.body (ds.map (fun d => some (false, d)) ++ List.replicate (f.ns - f.np) none) s = .ok (.rt d) s1) (he : d = d') : runF G fu f ds s = .ok d' s1 := by
  rw [← he]
  unfold runF
  rw [if_pos hl]
  simp only [bind_eq]
  exact b_ok h rfl
theorem or_b {e : CE} {r : CEs} {t : Bool} {x : Res Bool} (h : ev G true e env s = .ok (bl t) s1) (h2 : (if t = true then .ok true s1 else evOr G r env s1) = x) : evOr G (.cons e r) env s = x := by
  simp only [evOr, bind_eq]
  refine b_ok h (b_ok tru_ok ?_)
  cases t with
  | true => exact if_ok rfl (by rw [if_pos rfl] at h2; exact h2)
  | false => exact if_no Bool.false_ne_true (by rw [if_neg Bool.false_ne_true] at h2; exact h2)
theorem an_b {e : CE} {r : CEs} {t : Bool} {x : Res Bool} (h : ev G true e env s = .ok (bl t) s1) (h2 : (if t = true then evAnd G r env s1 else .ok false s1) = x) : evAnd G (.cons e r) env s = x := by
  simp only [evAnd, bind_eq]
  refine b_ok h (b_ok tru_ok ?_)
  cases t with
  | true => exact if_ok rfl (by rw [if_pos rfl] at h2; exact h2)
  | false => exact if_no Bool.false_ne_true (by rw [if_neg Bool.false_ne_true] at h2; exact h2)
theorem if_or {t b : Bool} {y : Res Bool} (h : y = .ok b s) : (if t = true then .ok true s else y) = .ok (t || b) s := by
  cases t with
  | true => rfl
  | false => exact h
theorem if_and {t b : Bool} {y : Res Bool} (h : y = .ok b s) : (if t = true then y else .ok false s) = .ok (t && b) s := by
  cases t with
  | true => exact h
  | false => rfl
end BK
set_option Elab.async false
set_option linter.all false
set_option maxRecDepth 100000
set_option maxHeartbeats 4000000
namespace BP
open PySem BK
/-! ### data -/
inductive Op where
  | set (i v : Nat)
  | add (i v : Nat)
  | cop (i j : Nat)
  deriving DecidableEq
def Op.d : Op → PyData
  | .set i v => .tuple [.str "set", .int (i : Int), .int (v : Int)]
  | .add i v => .tuple [.str "add", .int (i : Int), .int (v : Int)]
  | .cop i j => .tuple [.str "copy", .int (i : Int), .int (j : Int)]
def Op.ok (n : Nat) : Op → Bool
  | .set i v => decide (i < n) && decide (v < 3)
  | .add i v => decide (i < n) && decide (1 ≤ v) && decide (v < 3)
  | .cop i j => decide (i < n) && decide (j < n) && decide (i ≠ j)
abbrev St := List Int
def sd (xs : St) : PyData := .tuple (xs.map .int)
def ad (a : List Op) : PyData := .tuple (a.map Op.d)
def appl1 : Op → St → St
  | .set i v, xs => xs.set i v
  | .add i v, xs => xs.set i ((xs.getD i 0 + v) % 3)
  | .cop i j, xs => xs.set j (xs.getD i 0)
def appl (a : List Op) (xs : St) : St := a.foldl (fun x o => appl1 o x) xs
theorem appl_app (a b : List Op) (xs : St) : appl (a ++ b) xs = appl b (appl a xs) := by
  unfold appl
  rw [List.foldl_append]
theorem appl1_len (o : Op) (xs : St) : (appl1 o xs).length = xs.length := by
  cases o <;> simp [appl1]
def statesL : Nat → List St
  | 0 => [[]]
  | n + 1 => (statesL n).flatMap fun r => [r ++ [0], r ++ [1], r ++ [2]]
def okN (n : Nat) : Prop := n = 1 ∨ n = 2 ∨ n = 3
variable (scr : List Int) (s : Twn)
theorem r_between (i lo hi : Int) : f_is_between scr [int i, int lo, int hi] s = .ok (bl (decide (lo ≤ i) && decide (i ≤ hi))) s := by
  unfold f_is_between
  refine r_fn rfl (xs_rt (x_ret ?_))
  refine e_and (an_t (e_isi (e_var rfl) rfl) (an_t (e_not (e_isi (e_var rfl) rfl) rfl) ?_))
  rw [← Bool.and_true (decide (lo ≤ i) && decide (i ≤ hi))]
  exact an_c (e_chn (e_var rfl) (e_var rfl) (e_var rfl)) an_nil
theorem r_states {n : Nat} (h : okN n) : f_states_of scr [int n] s = .ok (lst ((statesL n).map sd)) s := by
  unfold f_states_of
  rcases h with rfl | rfl | rfl
  · with_unfolding_all rfl
  · with_unfolding_all rfl
  · with_unfolding_all rfl
theorem r_check_items {n : Nat} (h : okN n) : f_check_items scr [int n] s = .ok non s := by
  unfold f_check_items
  rcases h with rfl | rfl | rfl
  · with_unfolding_all rfl
  · with_unfolding_all rfl
  · with_unfolding_all rfl
/-! ### one operation -/
theorem ixN_at {n i : Nat} (h : i < n) : L2.ixN n (i : Int) = some i := by
  unfold L2.ixN
  rw [if_pos (by omega), if_pos (by omega)]
  simp
abbrev sEnv (A S : PyData) (xs : St) (x3 x4 x5 : Option (Bool × D)) : BK.Env := [some (false, .dat A), some (false, .dat S), some (true, lst (xs.map .int)), x3, x4, x5]
abbrev aBody : CSs := .cons (.iff (.cmp .eq (.var 3) (.cst (PyData.str ("set" : PySem.Str))))
    (.cons (.sto 2 (.var 4) (.var 5)) .nil)
    (.cons (.iff (.cmp .eq (.var 3) (.cst (PyData.str ("add" : PySem.Str))))
    (.cons (.sto 2 (.var 4) (.bin .mod (.bin .add (.idx (.var 2) (.var 4)) (.var 5)) (.cst (PyData.int 3)))) .nil)
    (.cons (.sto 2 (.var 5) (.idx (.var 2) (.var 4))) .nil)) .nil)) .nil
theorem eq_strs : opEq (str ("set" : PySem.Str)) (str ("set" : PySem.Str)) = some true ∧ opEq (str ("add" : PySem.Str)) (str ("set" : PySem.Str)) = some false ∧ opEq (str ("add" : PySem.Str)) (str ("add" : PySem.Str)) = some true ∧
    opEq (str ("copy" : PySem.Str)) (str ("set" : PySem.Str)) = some false ∧ opEq (str ("copy" : PySem.Str)) (str ("add" : PySem.Str)) = some false := by decide +kernel
theorem at_map {xs : St} {i : Nat} (h : i < xs.length)   : L2.atI (xs.map PyData.int) (i : Int) = some (.int (xs.getD i 0)) := by
  unfold L2.atI
  rw [List.length_map, ixN_at h]
  simp [h]
theorem set_map {xs : St} {i : Nat} {v : Int} : (xs.map PyData.int).set i (.int v) = (xs.set i v).map .int := by
  rw [List.map_set]
theorem turn1 {n : Nat} {o : Op} {A S : PyData} {xs : St} {x3 x4 x5 : Option (Bool × D)} {G : Nat → Fun} {fu : Nat} (ho : o.ok n = true) (hn : xs.length = n) :
    ∃ y3 y4 y5, (do
      let env' ← M.of (bindTg (.t [(.v 3), (.v 4), (.v 5)]) o.d (sEnv A S xs x3 x4 x5))
      exs G fu aBody env') s = .ok (.nx (sEnv A S (appl1 o xs) y3 y4 y5)) s := by
  obtain ⟨e1, e2, e3, e4, e5⟩ := eq_strs
  cases o with
  | set i v =>
    simp only [Op.ok, Bool.and_eq_true, decide_eq_true_eq] at ho
    refine ⟨some (false, str "set"), some (false, int i), some (false, int v), ?_⟩
    refine b_ok (of_ok rfl) (xs_nx (x_iffT (e_cmp (e_varO rfl) e_cst e1) (xs_nx (x_sto (m' := lst ((xs.set i v).map .int)) (e_var rfl) rfl (e_var rfl) ?_) xs_nil)) xs_nil)
    unfold stoD
    dsimp only
    rw [List.length_map, ixN_at (hn ▸ ho.1), ← set_map]
    rfl
  | add i v =>
    simp only [Op.ok, Bool.and_eq_true, decide_eq_true_eq] at ho
    refine ⟨some (false, str "add"), some (false, int i), some (false, int v), ?_⟩
    refine b_ok (of_ok rfl) (xs_nx (x_iffF (e_cmp (e_varO rfl) e_cst e2) (xs_nx (x_iffT (e_cmp (e_varO rfl) e_cst e3) (xs_nx (x_sto (d := .int ((xs.getD i 0 + v) % 3)) (m' := lst ((xs.set i ((xs.getD i 0 + v) % 3)).map .int))
      (e_bin (e_bin (e_idx (r := int (xs.getD i 0)) (e_varO rfl) (e_varO rfl) ?_) (e_varO rfl) rfl) e_cst rfl) rfl (e_var rfl) ?_) xs_nil)) xs_nil)) xs_nil)
    · unfold opIdx
      dsimp only
      rw [at_map (hn ▸ ho.1.1)]
      rfl
    · unfold stoD
      dsimp only
      rw [List.length_map, ixN_at (hn ▸ ho.1.1), ← set_map]
      rfl
  | cop i j =>
    simp only [Op.ok, Bool.and_eq_true, decide_eq_true_eq] at ho
    refine ⟨some (false, str "copy"), some (false, int i), some (false, int j), ?_⟩
    refine b_ok (of_ok rfl) (xs_nx (x_iffF (e_cmp (e_varO rfl) e_cst e4) (xs_nx (x_iffF (e_cmp (e_varO rfl) e_cst e5) (xs_nx (x_sto (d := .int (xs.getD i 0)) (m' := lst ((xs.set j (xs.getD i 0)).map .int))
      (e_idx (e_varO rfl) (e_varO rfl) ?_) rfl (e_var rfl) ?_) xs_nil)) xs_nil)) xs_nil)
    · unfold opIdx
      dsimp only
      rw [at_map (hn ▸ ho.1.1)]
      rfl
    · unfold stoD
      dsimp only
      rw [List.length_map, ixN_at (hn ▸ ho.1.2), ← set_map]
      rfl
theorem r_applied {n : Nat} {a : List Op} {xs : St} (ha : ∀ o ∈ a, o.ok n = true) (hn : xs.length = n) : f_applied scr [.dat (ad a), .dat (sd xs)] s = .ok (.dat (sd (appl a xs))) s := by
  unfold f_applied
  obtain ⟨env', s', h1, ⟨y3, y4, y5, rfl⟩, rfl⟩ := for_inv (s := s) (turn := fun x env => do
      let env' ← M.of (bindTg (.t [(.v 3), (.v 4), (.v 5)]) x env)
      exs (callD fs6 scr) 100000 aBody env') (xs := a.map Op.d) (env := sEnv (ad a) (sd xs) xs none none none) (fun i env s' => (∃ y3 y4 y5, env = sEnv (ad a) (sd xs) (appl (a.take i) xs) y3 y4 y5) ∧ s' = s) ⟨⟨none, none, none, rfl⟩, rfl⟩ (by
      rintro i x env s' hx ⟨⟨y3, y4, y5, rfl⟩, rfl⟩
      rw [List.getElem?_map] at hx
      cases ho : a[i]? with
      | none => rw [ho] at hx; cases hx
      | some o =>
        rw [ho] at hx
        cases hx
        have hm : o ∈ a := List.mem_of_getElem? ho
        have hlen : ∀ (b : List Op) (xs : St), (appl b xs).length = xs.length := by
          intro b
          induction b with
          | nil => intro xs; rfl
          | cons q b ih => intro xs; exact (ih (appl1 q xs)).trans (appl1_len q xs)
        obtain ⟨z3, z4, z5, h⟩ := turn1 (s := s') (G := callD fs6 scr) (fu := 100000) (A := ad a) (S := sd xs) (x3 := y3) (x4 := y4) (x5 := y5) (ha o hm) ((hlen (a.take i) xs).trans hn)
        refine ⟨_, s', h, ⟨z3, z4, z5, ?_⟩, rfl⟩
        have : appl (a.take (i + 1)) xs = appl1 o (appl (a.take i) xs) := by
          rw [List.take_add_one, ho, appl_app]
          rfl
        rw [this])
  refine r_fn rfl (xs_nx (x_own (e_p1 (e_varO rfl) rfl)) (xs_nx (x_for (i_seq (e_var rfl) rfl) h1) (xs_rt (x_ret (e_p1 (e_varO rfl) ?_)))))
  rw [List.length_map, List.take_length]
  rfl
/-! ### what is well formed -/
def okSt (n : Nat) (xs : St) : Prop := xs.length = n ∧ ∀ x ∈ xs, 0 ≤ x ∧ x ≤ 2
def okA (n : Nat) (a : List Op) : Prop := a.length ≤ 3 ∧ ∀ o ∈ a, o.ok n = true
theorem appl_len (b : List Op) : ∀ xs : St, (appl b xs).length = xs.length := by
  induction b with
  | nil => intro xs; rfl
  | cons q b ih => intro xs; exact (ih (appl1 q xs)).trans (appl1_len q xs)
theorem getD_ok {n : Nat} {xs : St} (h : okSt n xs) (i : Nat) : 0 ≤ xs.getD i 0 ∧ xs.getD i 0 ≤ 2 := by
  rw [List.getD_eq_getElem?_getD]
  cases e : xs[i]? with
  | none => simp
  | some x => exact h.2 x (List.mem_of_getElem? e)
theorem set_ok {n : Nat} {xs : St} (h : okSt n xs) {i : Nat} {v : Int} (hv : 0 ≤ v ∧ v ≤ 2) : okSt n (xs.set i v) := by
  refine ⟨by rw [List.length_set]; exact h.1, fun x hx => ?_⟩
  rcases List.mem_or_eq_of_mem_set hx with hx | hx
  · exact h.2 x hx
  · rw [hx]; exact hv
theorem appl1_ok {n : Nat} {o : Op} {xs : St} (ho : o.ok n = true) (h : okSt n xs) : okSt n (appl1 o xs) := by
  cases o with
  | set i v =>
    simp only [Op.ok, Bool.and_eq_true, decide_eq_true_eq] at ho
    exact set_ok h ⟨by omega, by omega⟩
  | add i v => exact set_ok h ⟨by omega, by omega⟩
  | cop i j => exact set_ok h (getD_ok h i)
theorem appl_ok {n : Nat} : ∀ {a : List Op} {xs : St}, (∀ o ∈ a, o.ok n = true) → okSt n xs → okSt n (appl a xs)
  | [], _, _, h => h
  | o :: a, xs, ha, h => appl_ok (a := a) (fun q hq => ha q (List.mem_cons_of_mem _ hq)) (appl1_ok (ha o List.mem_cons_self) h)
theorem mem_states {n : Nat} {xs : St} : xs ∈ statesL n ↔ okSt n xs := by
  induction n generalizing xs with
  | zero =>
    unfold statesL okSt
    rw [List.mem_singleton, List.length_eq_zero_iff]
    exact ⟨fun h => ⟨h, by rw [h]; intro x hx; cases hx⟩, fun h => h.1⟩
  | succ n ih =>
    unfold statesL
    rw [List.mem_flatMap]
    constructor
    · rintro ⟨r, hr, hx⟩
      have hr := ih.mp hr
      have key : ∀ v : Int, 0 ≤ v ∧ v ≤ 2 → okSt (n + 1) (r ++ [v]) := fun v hv => ⟨by simp [hr.1], fun x hx => by
        rcases List.mem_append.mp hx with hx | hx
        · exact hr.2 x hx
        · rw [List.mem_singleton.mp hx]; exact hv⟩
      simp only [List.mem_cons, List.not_mem_nil, or_false] at hx
      rcases hx with rfl | rfl | rfl
      · exact key 0 (by omega)
      · exact key 1 (by omega)
      · exact key 2 (by omega)
    · intro h
      have hne : xs ≠ [] := fun e => by rw [e] at h; exact absurd h.1 (by simp)
      refine ⟨xs.dropLast, ih.mpr ⟨by rw [List.length_dropLast, h.1]; rfl, fun x hx => h.2 x (List.dropLast_subset _ hx)⟩, ?_⟩
      have hl := h.2 _ (List.getLast_mem hne)
      have e := List.dropLast_concat_getLast hne
      have : xs.getLast hne = 0 ∨ xs.getLast hne = 1 ∨ xs.getLast hne = 2 := by omega
      simp only [List.mem_cons, List.not_mem_nil, or_false]
      rcases this with z | z | z <;> rw [z] at e
      · exact .inl e.symm
      · exact .inr (.inl e.symm)
      · exact .inr (.inr e.symm)
theorem eqvAll_ints : ∀ xs ys : List Int, PyData.eqvAll (xs.map .int) (ys.map .int) = decide (xs = ys)
  | [], [] => rfl
  | [], _ :: _ => rfl
  | _ :: _, [] => rfl
  | x :: xs, y :: ys => by
    rw [List.map_cons, List.map_cons]
    unfold PyData.eqvAll
    rw [eqvAll_ints xs ys]
    show ((x == y) && decide (xs = ys)) = _
    rw [Bool.eq_iff_iff]
    simp
theorem depth_ints : ∀ xs : List Int, PyData.depthAll (xs.map .int) = 0
  | [] => rfl
  | x :: xs => by
    rw [List.map_cons]
    unfold PyData.depthAll
    rw [depth_ints xs]
    rfl
theorem okD_sd (xs : St) : okD (sd xs) = true := by
  unfold okD sd
  have : (PyData.tuple (xs.map .int)).depth = 1 := by
    unfold PyData.depth
    rw [depth_ints]
  rw [this]
  rfl
theorem eq_sd (xs ys : St) : opEq (.dat (sd xs)) (.dat (sd ys)) = some (decide (xs = ys)) := by
  unfold opEq
  dsimp only
  rw [okD_sd, okD_sd]
  exact congrArg some (eqvAll_ints xs ys)
/-! ### the checks -/
theorem bools_true : ∀ (n : Nat), bools (List.replicate n (.bool true)) = some (List.replicate n true)
  | 0 => rfl
  | n + 1 => by
    rw [List.replicate_succ, List.replicate_succ]
    unfold bools
    rw [bools_true n]
    rfl
theorem all_true {α : Type} (xs : List α) : opP1 .all (lst (xs.map fun _ => .bool true)) = some (bl true) := by
  unfold opP1 opAll
  dsimp only
  rw [List.map_const', bools_true]
  show some (bl ((List.replicate xs.length true).all id)) = _
  rw [List.all_eq_true.mpr fun x hx => (by rw [List.eq_of_mem_replicate hx]; rfl)]
theorem fits_small {α : Type} {xs : List α} (h : xs.length ≤ 1000) : fits xs = true := by
  unfold fits
  rw [sizeLine_eq]
  exact decide_eq_true (by omega)
theorem dec_true {p : Prop} [Decidable p] (h : p) : some (bl (decide p)) = some (bl true) := by rw [decide_eq_true h]
theorem r_state_of {n : Nat} {xs : St} (hn : okN n) (h : okSt n xs) : f_is_state_of scr [int n, .dat (sd xs)] s = .ok (bl true) s := by
  unfold f_is_state_of
  have h3 : n ≤ 3 := by rcases hn with rfl | rfl | rfl <;> decide
  have hlc : ev (callD fs2 scr) false (.lc [2] (.v 2) (.seq (.var 1)) (.call 0 (.cons (.var 2) (.cons (.cst (PyData.int 0)) (.cons (.cst (PyData.int 2)) .nil))))) [some (false, int n), some (false, .dat (sd xs)), none] s = .ok (lst (xs.map fun _ => .bool true)) s := by
    refine e_lc (i_seq (e_var rfl) rfl) rfl (go_mapG (g := .int) (f := fun _ => .bool true) fun x hx => lc_turn rfl (e_call (es_cons (e_var rfl) (es_cons e_cst (es_cons e_cst es_nil))) ?_)) (fits_small (by rw [List.length_map, h.1]; omega))
    have hx := h.2 x hx
    rw [cd_2_0, r_between, decide_eq_true hx.1, decide_eq_true hx.2]
    rfl
  refine r_fn rfl (xs_rt (x_ret (e_and (an_t (e_isi (e_var rfl) rfl) (an_t (e_cmp (r := true) (e_p1 (e_var rfl) rfl) (e_var rfl) ?_) (an_t (e_p1 hlc (all_true xs)) an_nil))))))
  show opEq (int (xs.map PyData.int).length) (int n) = some true
  rw [List.length_map, h.1]
  show (if okD (.int n) && okD (.int n) then some ((n : Int) == n) else none) = _
  rw [beq_self_eq_true]
  rfl
/-! ### operations, actions -/
def ops0 (n : Nat) : List Op := (List.range n).flatMap fun i => [.set i 0, .set i 1, .set i 2, .add i 1, .add i 2] ++ ((List.range n).filter (· ≠ i)).map (.cop i)
theorem mem_ops0 {n : Nat} {o : Op} : o ∈ ops0 n ↔ o.ok n = true := by
  unfold ops0
  rw [List.mem_flatMap]
  constructor
  · rintro ⟨i, hi, h⟩
    have hi := List.mem_range.mp hi
    rw [List.mem_append] at h
    rcases h with h | h
    · simp only [List.mem_cons, List.not_mem_nil, or_false] at h
      rcases h with rfl | rfl | rfl | rfl | rfl <;> simp [Op.ok, hi]
    · obtain ⟨j, hj, rfl⟩ := List.mem_map.mp h
      rw [List.mem_filter] at hj
      have h1 := List.mem_range.mp hj.1
      have h2 : j ≠ i := by simpa using hj.2
      simp [Op.ok, hi, h1, Ne.symm h2]
  · intro h
    cases o with
    | set i v =>
      simp only [Op.ok, Bool.and_eq_true, decide_eq_true_eq] at h
      refine ⟨i, List.mem_range.mpr h.1, ?_⟩
      have : v = 0 ∨ v = 1 ∨ v = 2 := by omega
      rcases this with rfl | rfl | rfl <;> simp
    | add i v =>
      simp only [Op.ok, Bool.and_eq_true, decide_eq_true_eq] at h
      refine ⟨i, List.mem_range.mpr h.1.1, ?_⟩
      have : v = 1 ∨ v = 2 := by omega
      rcases this with rfl | rfl <;> simp
    | cop i j =>
      simp only [Op.ok, Bool.and_eq_true, decide_eq_true_eq] at h
      refine ⟨i, List.mem_range.mpr h.1.1, ?_⟩
      rw [List.mem_append]
      refine .inr (List.mem_map.mpr ⟨j, List.mem_filter.mpr ⟨List.mem_range.mpr h.1.2, ?_⟩, rfl⟩)
      simpa using Ne.symm h.2
theorem ops_1 : ops0 1 = [.set 0 0, .set 0 1, .set 0 2, .add 0 1, .add 0 2] := by decide +kernel
theorem r_op_1 : ∀ o ∈ ops0 1, f_is_operation scr [int 1, .dat o.d] s = .ok (bl true) s := by
  rw [ops_1]
  repeat (refine List.forall_mem_cons.mpr ⟨by with_unfolding_all rfl, ?_⟩)
  intro o h
  cases h
theorem ops_2 : ops0 2 = [.set 0 0, .set 0 1, .set 0 2, .add 0 1, .add 0 2, .cop 0 1, .set 1 0, .set 1 1, .set 1 2, .add 1 1, .add 1 2, .cop 1 0] := by decide +kernel
theorem r_op_2 : ∀ o ∈ ops0 2, f_is_operation scr [int 2, .dat o.d] s = .ok (bl true) s := by
  rw [ops_2]
  repeat (refine List.forall_mem_cons.mpr ⟨by with_unfolding_all rfl, ?_⟩)
  intro o h
  cases h
theorem ops_3 : ops0 3 = [.set 0 0, .set 0 1, .set 0 2, .add 0 1, .add 0 2, .cop 0 1, .cop 0 2, .set 1 0, .set 1 1, .set 1 2, .add 1 1, .add 1 2, .cop 1 0, .cop 1 2, .set 2 0, .set 2 1, .set 2 2, .add 2 1, .add 2 2, .cop 2 0, .cop 2 1] := by decide +kernel
theorem r_op_3 : ∀ o ∈ ops0 3, f_is_operation scr [int 3, .dat o.d] s = .ok (bl true) s := by
  rw [ops_3]
  repeat (refine List.forall_mem_cons.mpr ⟨by with_unfolding_all rfl, ?_⟩)
  intro o h
  cases h
theorem r_operation {n : Nat} {o : Op} (hn : okN n) (ho : o.ok n = true) : f_is_operation scr [int n, .dat o.d] s = .ok (bl true) s := by
  have ho := mem_ops0.mpr ho
  rcases hn with rfl | rfl | rfl
  · exact r_op_1 scr s o ho
  · exact r_op_2 scr s o ho
  · exact r_op_3 scr s o ho
theorem okA.n {n : Nat} {a : List Op} (h : okA n a) : a.length ≤ 3 := h.1
theorem le_int (m : Nat) (h : m ≤ 3) : opCmp .le (int m) (int 3) = some true := by
  show some (decide ((m : Int) ≤ 3)) = _
  rw [decide_eq_true (by omega)]
theorem r_action_of {n : Nat} {a : List Op} (hn : okN n) (h : okA n a) : f_is_action_of scr [int n, .dat (ad a)] s = .ok (bl true) s := by
  unfold f_is_action_of
  have hlc : ev (callD fs4 scr) false (.lc [2] (.v 2) (.seq (.var 1)) (.call 3 (.cons (.var 0) (.cons (.var 2) .nil)))) [some (false, int n), some (false, .dat (ad a)), none] s = .ok (lst (a.map fun _ => .bool true)) s := by
    refine e_lc (i_seq (e_var rfl) rfl) rfl (go_mapG (g := Op.d) (f := fun _ => .bool true) fun x hx => lc_turn rfl (e_call (es_cons (e_var rfl) (es_cons (e_var rfl) es_nil)) ?_)) (fits_small (by rw [List.length_map]; have := h.1; omega))
    rw [cd_4_3]
    exact r_operation scr s hn (h.2 x hx)
  refine r_fn rfl (xs_rt (x_ret (e_and (an_t (e_isi (e_var rfl) rfl) (an_t (e_cmp (r := true) (e_p1 (x := .dat (ad a)) (r := int a.length) (e_var rfl) ?_) e_cst ?_) (an_t (e_p1 hlc (all_true a)) an_nil))))))
  · show some (int (a.map Op.d).length) = _
    rw [List.length_map]
  · exact le_int _ h.1
theorem r_check_action {n : Nat} {a : List Op} (hn : okN n) (h : okA n a) : f_check_action scr [int n, .dat (ad a)] s = .ok non s := by
  unfold f_check_action
  refine r_fnN rfl (xs_nx (x_iffF (e_not (e_call (es_cons (e_var rfl) (es_cons (e_var rfl) es_nil)) (r_action_of scr s hn h)) rfl) xs_nil) xs_nil)
theorem r_after {n : Nat} {a : List Op} {xs : St} (hn : okN n) (h : okA n a) (hs : okSt n xs) : f_after scr [int n, .dat (ad a), .dat (sd xs)] s = .ok (.dat (sd (appl a xs))) s := by
  unfold f_after
  refine r_fn rfl (xs_nx (x_exp (e_call (es_cons (e_var rfl) es_nil) (r_check_items scr s hn))) (xs_nx (x_exp (e_call (es_cons (e_var rfl) (es_cons (e_var rfl) es_nil)) (r_check_action scr s hn h)))
    (xs_nx (x_iffF (e_not (e_call (es_cons (e_var rfl) (es_cons (e_var rfl) es_nil)) (r_state_of scr s hn hs)) rfl) xs_nil) (xs_rt (x_ret (e_call (es_cons (e_var rfl) (es_cons (e_var rfl) es_nil)) (r_applied scr s h.2 hs.1)))))))
theorem r_all_states {n : Nat} (hn : okN n) : f_all_states scr [int n] s = .ok (tup ((statesL n).map sd)) s := by
  unfold f_all_states
  refine r_fn rfl (xs_nx (x_exp (e_call (es_cons (e_var rfl) es_nil) (r_check_items scr s hn))) (xs_rt (x_ret (e_p1 (e_call (es_cons (e_var rfl) es_nil) (r_states scr s hn)) rfl))))
/-! ### the first state that tells two actions apart -/
def unl (a b : List Op) (xs : St) : Bool := decide (appl a xs ≠ appl b xs)
def firstD (n : Nat) (a b : List Op) : PyData := match (statesL n).find? (unl a b) with
  | some xs => sd xs
  | none => .none
theorem r_first {n : Nat} {a b : List Op} (hn : okN n) (ha : ∀ o ∈ a, o.ok n = true) (hb : ∀ o ∈ b, o.ok n = true) : f_first_unlike scr [int n, .dat (ad a), .dat (ad b)] s = .ok (.dat (firstD n a b)) s := by
  unfold f_first_unlike
  obtain ⟨f1, f2⟩ := for_find (s := s) (g := sd) (turn := fun x env => do
      let env' ← M.of (bindTg (.v 3) x env)
      exs (callD fs10 scr) 100000 (.cons (.iff (.cmp .ne (.call 6 (.cons (.var 1) (.cons (.var 3) .nil))) (.call 6 (.cons (.var 2) (.cons (.var 3) .nil)))) (.cons (.ret (.var 3)) .nil) .nil) .nil) env') (p := unl a b) (res := fun x => .dat (sd x)) (xs := statesL n)
    (env := [some (false, int n), some (false, .dat (ad a)), some (false, .dat (ad b)), none]) (fun env => ∃ y, env = [some (false, int n), some (false, .dat (ad a)), some (false, .dat (ad b)), y]) ⟨none, rfl⟩ (by
      rintro x hx env ⟨y, rfl⟩
      have hl := (mem_states.mp hx).1
      have hc : ev (callD fs10 scr) true (.cmp .ne (.call 6 (.cons (.var 1) (.cons (.var 3) .nil))) (.call 6 (.cons (.var 2) (.cons (.var 3) .nil)))) [some (false, int n), some (false, .dat (ad a)), some (false, .dat (ad b)), some (false, .dat (sd x))] s = .ok (bl (unl a b x)) s := by
        refine e_cmp (e_call (es_cons (e_var rfl) (es_cons (e_var rfl) es_nil)) (r_applied scr s ha hl)) (e_call (es_cons (e_var rfl) (es_cons (e_var rfl) es_nil)) (r_applied scr s hb hl)) ?_
        show (opEq (.dat (sd (appl a x))) (.dat (sd (appl b x)))).map (!·) = _
        rw [eq_sd]
        unfold unl
        simp
      refine ⟨fun hp => ?_, fun hp => ⟨_, ?_, some (false, .dat (sd x)), rfl⟩⟩
      · rw [hp] at hc
        exact b_ok (of_ok rfl) (xs_rt (x_iffT hc (xs_rt (x_ret (e_var rfl)))))
      · rw [hp] at hc
        exact b_ok (of_ok rfl) (xs_nx (x_iffF hc xs_nil) xs_nil))
  unfold firstD
  cases hf : (statesL n).find? (unl a b) with
  | some xs => exact r_fn rfl (xs_rt (x_for (i_seq (e_call (es_cons (e_var rfl) es_nil) (r_states scr s hn)) rfl) (f1 xs hf)))
  | none =>
    obtain ⟨env', h1, y, rfl⟩ := f2 hf
    exact r_fn rfl (xs_nx (x_for (i_seq (e_call (es_cons (e_var rfl) es_nil) (r_states scr s hn)) rfl) h1) (xs_rt (x_ret e_cst)))
theorem ad_app (a b : List Op) (h : a.length + b.length ≤ 1000) : opBin .add (.dat (ad a)) (.dat (ad b)) = some (.dat (ad (a ++ b))) := by
  show (if (a.map Op.d).length + (b.map Op.d).length ≤ sizeLine then some (tup (a.map Op.d ++ b.map Op.d)) else none) = _
  rw [List.length_map, List.length_map, sizeLine_eq, if_pos (by omega)]
  unfold ad
  rw [List.map_append]
theorem app_ok {n : Nat} {a b : List Op} (ha : ∀ o ∈ a, o.ok n = true) (hb : ∀ o ∈ b, o.ok n = true) : ∀ o ∈ a ++ b, o.ok n = true := fun o h => (List.mem_append.mp h).elim (ha o) (hb o)
theorem r_repeat {n : Nat} {a : List Op} (hn : okN n) (h : okA n a) : f_repeat_state scr [int n, .dat (ad a)] s = .ok (.dat (firstD n a (a ++ a))) s := by
  unfold f_repeat_state
  have := h.1
  refine r_fn rfl (xs_nx (x_exp (e_call (es_cons (e_var rfl) es_nil) (r_check_items scr s hn))) (xs_nx (x_exp (e_call (es_cons (e_var rfl) (es_cons (e_var rfl) es_nil)) (r_check_action scr s hn h)))
    (xs_rt (x_ret (e_call (es_cons (e_var rfl) (es_cons (e_var rfl) (es_cons (e_bin (e_var rfl) (e_var rfl) (ad_app a a (by omega))) es_nil))) (r_first scr s hn h.2 (app_ok h.2 h.2)))))))
theorem r_exchange {n : Nat} {a b : List Op} (hn : okN n) (h : okA n a) (h' : okA n b) : f_exchange_state scr [int n, .dat (ad a), .dat (ad b)] s = .ok (.dat (firstD n (a ++ b) (b ++ a))) s := by
  unfold f_exchange_state
  have := h.1
  have := h'.1
  refine r_fn rfl (xs_nx (x_exp (e_call (es_cons (e_var rfl) es_nil) (r_check_items scr s hn))) (xs_nx (x_exp (e_call (es_cons (e_var rfl) (es_cons (e_var rfl) es_nil)) (r_check_action scr s hn h))) (xs_nx (x_exp (e_call (es_cons (e_var rfl) (es_cons (e_var rfl) es_nil)) (r_check_action scr s hn h')))
    (xs_rt (x_ret (e_call (es_cons (e_var rfl) (es_cons (e_bin (e_var rfl) (e_var rfl) (ad_app a b (by omega))) (es_cons (e_bin (e_var rfl) (e_var rfl) (ad_app b a (by omega))) es_nil))) (r_first scr s hn (app_ok h.2 h'.2) (app_ok h'.2 h.2))))))))
theorem r_back {n : Nat} {a b : List Op} (hn : okN n) (h : okA n a) (h' : okA n b) : f_back_state scr [int n, .dat (ad a), .dat (ad b)] s = .ok (.dat (firstD n (a ++ b) [])) s := by
  unfold f_back_state
  have := h.1
  have := h'.1
  refine r_fn rfl (xs_nx (x_exp (e_call (es_cons (e_var rfl) es_nil) (r_check_items scr s hn))) (xs_nx (x_exp (e_call (es_cons (e_var rfl) (es_cons (e_var rfl) es_nil)) (r_check_action scr s hn h))) (xs_nx (x_exp (e_call (es_cons (e_var rfl) (es_cons (e_var rfl) es_nil)) (r_check_action scr s hn h')))
    (xs_rt (x_ret (e_call (es_cons (e_var rfl) (es_cons (e_bin (e_var rfl) (e_var rfl) (ad_app a b (by omega))) (es_cons (e_tup es_nil rfl rfl) es_nil))) (r_first (b := []) scr s hn (app_ok h.2 h'.2) (fun o h => by cases h))))))))
end BP
set_option Elab.async false
set_option linter.all false
set_option maxRecDepth 100000
set_option maxHeartbeats 4000000
namespace BP
open PySem BK
variable (scr : List Int) (s : Twn)
/-! ### what loses nothing -/
def inj (n : Nat) (a : List Op) : Bool := decide ((once ((statesL n).map (appl a))).length = (statesL n).length)
theorem intL_map : ∀ xs : List Int, intL (xs.map .int) = some xs
  | [] => rfl
  | x :: xs => by
    rw [List.map_cons]
    unfold intL
    rw [intL_map xs]
    rfl
theorem intTs_map : ∀ l : List St, intTs (l.map sd) = some l
  | [] => rfl
  | x :: l => by
    show (match intL (x.map .int), intTs (l.map sd) with
      | some x, some xs => some (x :: xs)
      | _, _ => none) = _
    rw [intL_map x, intTs_map l]
theorem states_len {n : Nat} (hn : okN n) : (statesL n).length ≤ 27 := by
  rcases hn with rfl | rfl | rfl <;> decide
theorem eq_int (i j : Int) : opCmp .eq (int i) (int j) = some (decide (i = j)) := by
  show (if okD (.int i) && okD (.int j) then some (i == j) else none) = _
  have : (i == j) = decide (i = j) := by rw [Bool.eq_iff_iff]; simp
  rw [this]
  rfl
theorem r_loses {n : Nat} {a : List Op} (hn : okN n) (ha : ∀ o ∈ a, o.ok n = true) : f_loses_nothing scr [int n, .dat (ad a)] s = .ok (bl (inj n a)) s := by
  unfold f_loses_nothing
  have hl := states_len hn
  have hlc : ev (callD fs14 scr) false (.lc [3] (.v 3) (.seq (.var 2)) (.call 6 (.cons (.var 1) (.cons (.var 3) .nil)))) [some (false, int n), some (false, .dat (ad a)), some (false, lst ((statesL n).map sd)), none] s = .ok (lst ((statesL n).map fun x => sd (appl a x))) s := by
    refine e_lc (i_seq (e_var rfl) rfl) rfl (go_mapG (g := sd) (f := fun x => sd (appl a x)) fun x hx => lc_turn rfl (e_call (es_cons (e_var rfl) (es_cons (e_var rfl) es_nil)) ?_)) (fits_small (by rw [List.length_map]; omega))
    exact r_applied scr s ha (mem_states.mp hx).1
  refine r_fn rfl (xs_nx (x_asg (e_call (es_cons (e_var rfl) es_nil) (r_states scr s hn))) (xs_rt (x_ret (e_cmp (e_lset (r := int (once ((statesL n).map (appl a))).length) hlc ?_) (e_p1 (r := int (statesL n).length) (e_var rfl) ?_) ?_))))
  · show (if ((statesL n).map fun x => sd (appl a x)).length < 64 then (intTs ((statesL n).map fun x => sd (appl a x))).map fun l => int (once l).length else none) = _
    rw [List.length_map, if_pos (by omega)]
    have : ((statesL n).map fun x => sd (appl a x)) = ((statesL n).map (appl a)).map sd := by rw [List.map_map]; rfl
    rw [this, intTs_map]
    rfl
  · show some (int ((statesL n).map sd).length) = _
    rw [List.length_map]
  · rw [eq_int]
    unfold inj
    rw [Bool.eq_iff_iff.mpr (by simp only [decide_eq_true_eq]; omega : (decide (((once ((statesL n).map (appl a))).length : Int) = ((statesL n).length : Int)) = true ↔ decide ((once ((statesL n).map (appl a))).length = (statesL n).length) = true))]
theorem r_reversible {n : Nat} {a : List Op} (hn : okN n) (h : okA n a) : f_is_reversible scr [int n, .dat (ad a)] s = .ok (bl (inj n a)) s := by
  unfold f_is_reversible
  exact r_fn rfl (xs_nx (x_exp (e_call (es_cons (e_var rfl) es_nil) (r_check_items scr s hn))) (xs_nx (x_exp (e_call (es_cons (e_var rfl) (es_cons (e_var rfl) es_nil)) (r_check_action scr s hn h))) (xs_rt (x_ret (e_call (es_cons (e_var rfl) (es_cons (e_var rfl) es_nil)) (r_loses scr s hn h.2))))))
/-! ### all operations, sorted -/
def opsL (n : Nat) : List Op := isortL (fun a b => dle a.d b.d) (ops0 n)
theorem mem_opsL {n : Nat} {o : Op} : o ∈ opsL n ↔ o.ok n = true := by
  unfold opsL
  rw [(isortL_perm _ _).mem_iff]
  exact mem_ops0
theorem opsL_sort (n : Nat) : sortD ((ops0 n).map Op.d) = (opsL n).map Op.d := by
  exact sortD_map _ _
theorem opsL_len {n : Nat} (hn : okN n) : (opsL n).length ≤ 21 := by
  unfold opsL
  rw [(isortL_perm _ _).length_eq]
  rcases hn with rfl | rfl | rfl <;> decide
theorem r_operations {n : Nat} (hn : okN n) : f_operations_of scr [int n] s = .ok (lst ((opsL n).map Op.d)) s := by
  have key : ∀ (n : Nat) (env' : BK.Env), env'[1]? = some (some (true, lst ((ops0 n).map Op.d))) → sortable ((ops0 n).map Op.d) = true → ex (callD fs16 scr) 100000 (.for (.v 2) (.rng (.var 0))
    (.cons (.ext 1 (.bin .add (.lc [4] (.v 4) (.rng (.cst (PyData.int 3))) (.tup (.cons (.cst (PyData.str ("set" : PySem.Str))) (.cons (.var 2) (.cons (.var 4) .nil))))) (.lst (.cons (.tup (.cons (.cst (PyData.str ("add" : PySem.Str))) (.cons (.var 2) (.cons (.cst (PyData.int 1)) .nil)))) (.cons (.tup (.cons (.cst (PyData.str ("add" : PySem.Str))) (.cons (.var 2) (.cons (.cst (PyData.int 2)) .nil)))) .nil)))))
    (.cons (.ext 1 (.lcIf [3] (.v 3) (.rng (.var 0)) (.cmp .ne (.var 3) (.var 2)) (.tup (.cons (.cst (PyData.str ("copy" : PySem.Str))) (.cons (.var 2) (.cons (.var 3) .nil)))))) .nil))) [some (false, int n), some (true, lst []), none, none, none] s = .ok (.nx env') s →
    f_operations_of scr [int n] s = .ok (lst ((opsL n).map Op.d)) s := by
    intro n env' h1 h2 h3
    unfold f_operations_of
    refine r_fn rfl (xs_nx (x_own (e_lst es_nil rfl rfl)) (xs_nx h3 (xs_rt (x_ret (e_p1 (e_varO h1) ?_)))))
    show (if sortable ((ops0 n).map Op.d) then some (lst (sortD ((ops0 n).map Op.d))) else none) = _
    rw [h2, if_pos rfl, opsL_sort]
  rcases hn with rfl | rfl | rfl
  · exact key 1 [some (false, int 1), some (true, lst ((ops0 1).map Op.d)), some (false, int 0), none, none] rfl (by decide +kernel) (by with_unfolding_all rfl)
  · exact key 2 [some (false, int 2), some (true, lst ((ops0 2).map Op.d)), some (false, int 1), none, none] rfl (by decide +kernel) (by with_unfolding_all rfl)
  · exact key 3 [some (false, int 3), some (true, lst ((ops0 3).map Op.d)), some (false, int 2), none, none] rfl (by decide +kernel) (by with_unfolding_all rfl)
/-! ### the way back -/
def isId (n : Nat) (c : List Op) : Bool := isNon (firstD n c [])
def rowsAt (n : Nat) : Nat → List (List Op)
  | 0 => [[]]
  | t + 1 => (rowsAt n t).flatMap fun b => (opsL n).map fun o => b ++ [o]
def wb (n : Nat) (a : List Op) : Option (List Op) := if inj n a then ((rowsAt n 0).find? fun b => isId n (a ++ b)).or (((rowsAt n 1).find? fun b => isId n (a ++ b)).or ((rowsAt n 2).find? fun b => isId n (a ++ b))) else none
def optD : Option (List Op) → PyData
  | some b => ad b
  | none => .none
theorem rows_ok {n : Nat} : ∀ {t : Nat} {b : List Op}, b ∈ rowsAt n t → b.length = t ∧ ∀ o ∈ b, o.ok n = true
  | 0, b, h => by
    unfold rowsAt at h
    rw [List.mem_singleton] at h
    subst h
    exact ⟨rfl, fun o h => by cases h⟩
  | t + 1, b, h => by
    unfold rowsAt at h
    rw [List.mem_flatMap] at h
    obtain ⟨c, hc, hb⟩ := h
    obtain ⟨o, ho, rfl⟩ := List.mem_map.mp hb
    obtain ⟨h1, h2⟩ := rows_ok hc
    refine ⟨by simp [h1], fun q hq => ?_⟩
    rcases List.mem_append.mp hq with hq | hq
    · exact h2 q hq
    · rw [List.mem_singleton.mp hq]
      exact mem_opsL.mp ho
theorem flat_len {α β : Type} {l : List α} {f : α → List β} {k : Nat} (h : ∀ x ∈ l, (f x).length ≤ k) : (l.flatMap f).length ≤ l.length * k := by
  induction l with
  | nil => simp
  | cons x l ih =>
    rw [List.flatMap_cons, List.length_append, List.length_cons, Nat.succ_mul]
    have := h x List.mem_cons_self
    have := ih fun y hy => h y (List.mem_cons_of_mem _ hy)
    omega
theorem rows_len {n : Nat} (hn : okN n) : ∀ t, (rowsAt n t).length ≤ 21 ^ t
  | 0 => by simp [rowsAt]
  | t + 1 => by
    unfold rowsAt
    refine Nat.le_trans (flat_len (k := 21) fun b _ => ?_) ?_
    · rw [List.length_map]
      exact opsL_len hn
    · rw [Nat.pow_succ]
      exact Nat.mul_le_mul_right _ (rows_len hn t)
abbrev wEnv (n : Nat) (a : List Op) (rows : List (List Op)) (x3 x4 x5 : Option (Bool × D)) : BK.Env := [some (false, int n), some (false, .dat (ad a)), some (false, lst (rows.map ad)), x3, x4, x5, none]
abbrev wBody : CSs := (.cons (.for (.v 4) (.seq (.var 2))
    (.cons (.iff (.isN (.call 10 (.cons (.var 0) (.cons (.bin .add (.var 1) (.var 4)) (.cons (.tup .nil) .nil)))))
    (.cons (.ret (.var 4)) .nil) .nil) .nil))
    (.cons (.own 5 (.lst .nil))
    (.cons (.for (.v 4) (.seq (.var 2))
    (.cons (.ext 5 (.lc [6] (.v 6) (.seq (.call 16 (.cons (.var 0) .nil))) (.bin .add (.var 4) (.tup (.cons (.var 6) .nil))))) .nil))
    (.cons (.frz [5])
    (.cons (.asg (.v 2) (.ite (.cmp .lt (.var 3) (.cst (PyData.int 2))) (.var 5) (.lst .nil))) .nil)))))
theorem ad_one (b : List Op) (o : Op) (h : b.length ≤ 900) : opBin .add (.dat (ad b)) (tup [o.d]) = some (.dat (ad (b ++ [o]))) := ad_app b [o] (by simp; omega)
/-- one turn of the search -/
theorem way_turn {n : Nat} {a : List Op} (hn : okN n) (h : okA n a) {t : Nat} (ht : t < 3) (x4 x5 : Option (Bool × D)) (x3 : Option (Bool × D)) :
    (∀ b, (rowsAt n t).find? (fun b => isId n (a ++ b)) = some b → (do
      let env' ← M.of (bindTg (.v 3) (.int (t : Int)) (wEnv n a (rowsAt n t) x3 x4 x5))
      exs (callD fs17 scr) 100000 wBody env') s = .ok (.rt (.dat (ad b))) s) ∧
    ((rowsAt n t).find? (fun b => isId n (a ++ b)) = none → ∃ y3 y4 y5, (do
      let env' ← M.of (bindTg (.v 3) (.int (t : Int)) (wEnv n a (rowsAt n t) x3 x4 x5))
      exs (callD fs17 scr) 100000 wBody env') s = .ok (.nx (wEnv n a (if t < 2 then rowsAt n (t + 1) else []) y3 y4 y5)) s) := by
  have hal := h.1
  have hrl := rows_len hn t
  have h21 : 21 ^ t ≤ 441 := by
    have : t = 0 ∨ t = 1 ∨ t = 2 := by omega
    rcases this with rfl | rfl | rfl <;> decide
  obtain ⟨f1, f2⟩ := for_find (s := s) (g := ad) (turn := fun x env => do
      let env' ← M.of (bindTg (.v 4) x env)
      exs (callD fs17 scr) 100000 (.cons (.iff (.isN (.call 10 (.cons (.var 0) (.cons (.bin .add (.var 1) (.var 4)) (.cons (.tup .nil) .nil))))) (.cons (.ret (.var 4)) .nil) .nil) .nil) env') (p := fun b => isId n (a ++ b)) (res := fun x => .dat (ad x)) (xs := rowsAt n t)
    (env := wEnv n a (rowsAt n t) (some (false, int t)) x4 x5) (fun env => ∃ y, env = wEnv n a (rowsAt n t) (some (false, int t)) y x5) ⟨x4, rfl⟩ (by
      rintro b hb env ⟨y, rfl⟩
      obtain ⟨hbl, hbo⟩ := rows_ok hb
      have hc : ev (callD fs17 scr) true (.isN (.call 10 (.cons (.var 0) (.cons (.bin .add (.var 1) (.var 4)) (.cons (.tup .nil) .nil))))) (wEnv n a (rowsAt n t) (some (false, int t)) (some (false, .dat (ad b))) x5) s = .ok (bl (isId n (a ++ b))) s :=
        e_isN (e_call (es_cons (e_var rfl) (es_cons (e_bin (e_var rfl) (e_var rfl) (ad_app a b (by omega))) (es_cons (e_tup es_nil rfl rfl) es_nil))) (r_first (b := []) scr s hn (app_ok h.2 hbo) (fun o h => by cases h))) rfl
      refine ⟨fun hp => ?_, fun hp => ⟨_, ?_, some (false, .dat (ad b)), rfl⟩⟩
      · have hp : isId n (a ++ b) = true := hp
        rw [hp] at hc
        exact b_ok (of_ok rfl) (xs_rt (x_iffT hc (xs_rt (x_ret (e_var rfl)))))
      · have hp : isId n (a ++ b) = false := hp
        rw [hp] at hc
        exact b_ok (of_ok rfl) (xs_nx (x_iffF hc xs_nil) xs_nil))
  refine ⟨fun b hb => ?_, fun hno => ?_⟩
  · exact b_ok (of_ok rfl) (xs_rt (x_for (i_seq (e_var rfl) rfl) (f1 b hb)))
  · obtain ⟨env1, g1, y, rfl⟩ := f2 hno
    -- the longer ones
    obtain ⟨env2, s2, g2, ⟨z4, rfl⟩, rfl⟩ := for_inv (s := s) (turn := fun x env => do
        let env' ← M.of (bindTg (.v 4) x env)
        exs (callD fs17 scr) 100000 (.cons (.ext 5 (.lc [6] (.v 6) (.seq (.call 16 (.cons (.var 0) .nil))) (.bin .add (.var 4) (.tup (.cons (.var 6) .nil))))) .nil) env') (xs := (rowsAt n t).map ad)
      (env := wEnv n a (rowsAt n t) (some (false, int t)) y (some (true, lst [])))
      (fun i env s' => (∃ z4, env = wEnv n a (rowsAt n t) (some (false, int t)) z4 (some (true, lst ((((rowsAt n t).take i).flatMap fun b => (opsL n).map fun o => b ++ [o]).map ad)))) ∧ s' = s) ⟨⟨y, rfl⟩, rfl⟩ (by
        rintro i x env s' hx ⟨⟨z4, rfl⟩, rfl⟩
        rw [List.getElem?_map] at hx
        cases hb : (rowsAt n t)[i]? with
        | none => rw [hb] at hx; cases hx
        | some b =>
          rw [hb] at hx
          cases hx
          obtain ⟨hbl, hbo⟩ := rows_ok (List.mem_of_getElem? hb)
          have hil : i < (rowsAt n t).length := (List.getElem?_eq_some_iff.mp hb).1
          have hol := opsL_len hn
          have hlen : ((((rowsAt n t).take i).flatMap fun b => (opsL n).map fun o => b ++ [o]).map ad).length ≤ 441 * 21 := by
            rw [List.length_map]
            refine Nat.le_trans (flat_len (k := 21) fun b _ => by rw [List.length_map]; exact hol) (Nat.mul_le_mul_right _ ?_)
            rw [List.length_take]
            omega
          have hlc : ev (callD fs17 scr) true (.lc [6] (.v 6) (.seq (.call 16 (.cons (.var 0) .nil))) (.bin .add (.var 4) (.tup (.cons (.var 6) .nil)))) (wEnv n a (rowsAt n t) (some (false, int t)) (some (false, .dat (ad b))) (some (true, lst ((((rowsAt n t).take i).flatMap fun b => (opsL n).map fun o => b ++ [o]).map ad)))) s' = .ok (lst ((opsL n).map fun o => ad (b ++ [o]))) s' := by
            refine e_lc (i_seq (e_call (es_cons (e_var rfl) es_nil) (r_operations scr s' hn)) rfl) rfl (go_mapG (g := Op.d) (f := fun o => ad (b ++ [o])) fun o ho => lc_turn rfl (e_bin (e_var rfl) (e_tup (es_cons (e_var rfl) es_nil) rfl rfl) (ad_one b o (by omega)))) (fits_small (by rw [List.length_map]; omega))
          refine ⟨_, s', b_ok (of_ok rfl) (xs_nx (x_ext rfl hlc ?_) xs_nil), ⟨some (false, .dat (ad b)), ?_⟩, rfl⟩
          · rw [sizeLine_eq]
            simp only [List.length_map] at hlen ⊢
            omega
          · have e : (((rowsAt n t).take (i + 1)).flatMap fun b => (opsL n).map fun o => b ++ [o]).map ad = ((((rowsAt n t).take i).flatMap fun b => (opsL n).map fun o => b ++ [o]).map ad) ++ ((opsL n).map fun o => ad (b ++ [o])) := by
              rw [List.take_add_one, hb, List.flatMap_append, List.map_append]
              congr 1
              show ([b].flatMap _).map ad = _
              simp
            rw [e]
            rfl)
    rw [List.length_map, List.take_length] at g2
    have hlt : ∀ E : BK.Env, E[3]? = some (some (false, int t)) → ev (callD fs17 scr) true (.cmp .lt (.var 3) (.cst (PyData.int 2))) E s2 = .ok (bl (decide (t < 2))) s2 := fun E hE => by
      refine e_cmp (e_var hE) e_cst ?_
      show some (decide ((t : Int) < 2)) = _
      rw [Bool.eq_iff_iff.mpr (by simp only [decide_eq_true_eq]; omega : (decide ((t : Int) < 2) = true ↔ decide (t < 2) = true))]
    by_cases h2 : t < 2
    · rw [if_pos h2]
      rw [decide_eq_true h2] at hlt
      refine ⟨some (false, int t), z4, some (false, lst ((rowsAt n (t + 1)).map ad)), b_ok (of_ok rfl) (xs_nx (x_for (i_seq (e_var rfl) rfl) g1) (xs_nx (x_own (e_lst es_nil rfl rfl)) (xs_nx (x_for (i_seq (e_var rfl) rfl) g2) (xs_nx x_frz (xs_nx (x_asg (e_iteT (hlt _ rfl) (e_var rfl))) xs_nil)))))⟩
    · rw [if_neg h2]
      rw [decide_eq_false h2] at hlt
      refine ⟨some (false, int t), z4, some (false, lst ((rowsAt n (t + 1)).map ad)), b_ok (of_ok rfl) (xs_nx (x_for (i_seq (e_var rfl) rfl) g1) (xs_nx (x_own (e_lst es_nil rfl rfl)) (xs_nx (x_for (i_seq (e_var rfl) rfl) g2) (xs_nx x_frz (xs_nx (x_asg (e_iteF (hlt _ rfl) (e_lst es_nil rfl rfl))) xs_nil)))))⟩
theorem r_way {n : Nat} {a : List Op} (hn : okN n) (h : okA n a) : f_way_back scr [int n, .dat (ad a)] s = .ok (.dat (optD (wb n a))) s := by
  unfold f_way_back
  cases hi : inj n a with
  | false =>
    have e : wb n a = none := by unfold wb; rw [hi]; rfl
    rw [e]
    have hl := r_loses scr s hn h.2
    rw [hi] at hl
    exact r_fn rfl (xs_nx (x_exp (e_call (es_cons (e_var rfl) es_nil) (r_check_items scr s hn))) (xs_nx (x_exp (e_call (es_cons (e_var rfl) (es_cons (e_var rfl) es_nil)) (r_check_action scr s hn h)))
      (xs_rt (x_iffT (e_not (e_call (es_cons (e_var rfl) (es_cons (e_var rfl) es_nil)) hl) rfl) (xs_rt (x_ret e_cst))))))
  | true =>
    have hl := r_loses scr s hn h.2
    rw [hi] at hl
    have hw : ∀ r : Res Fl, forGo (fun x env => do
        let env' ← M.of (bindTg (.v 3) x env)
        exs (callD fs17 scr) 100000 wBody env') (rngD 3) (wEnv n a (rowsAt n 0) none none none) s = r → (∀ d, r = .ok (.rt d) s → runF (callD fs17 scr) 100000 c_way_back [int n, .dat (ad a)] s = .ok d s) ∧ (∀ env', r = .ok (.nx env') s → runF (callD fs17 scr) 100000 c_way_back [int n, .dat (ad a)] s = .ok non s) := by
      intro r hr
      refine ⟨fun d e => ?_, fun env' e => ?_⟩
      · rw [e] at hr
        exact r_fn rfl (xs_nx (x_exp (e_call (es_cons (e_var rfl) es_nil) (r_check_items scr s hn))) (xs_nx (x_exp (e_call (es_cons (e_var rfl) (es_cons (e_var rfl) es_nil)) (r_check_action scr s hn h)))
          (xs_nx (x_iffF (e_not (e_call (es_cons (e_var rfl) (es_cons (e_var rfl) es_nil)) hl) rfl) xs_nil) (xs_nx (x_asg (e_lst (es_cons (e_tup es_nil rfl rfl) es_nil) rfl rfl)) (xs_rt (x_for (i_rng e_cst ⟨by decide, by decide⟩) hr))))))
      · rw [e] at hr
        exact r_fn rfl (xs_nx (x_exp (e_call (es_cons (e_var rfl) es_nil) (r_check_items scr s hn))) (xs_nx (x_exp (e_call (es_cons (e_var rfl) (es_cons (e_var rfl) es_nil)) (r_check_action scr s hn h)))
          (xs_nx (x_iffF (e_not (e_call (es_cons (e_var rfl) (es_cons (e_var rfl) es_nil)) hl) rfl) xs_nil) (xs_nx (x_asg (e_lst (es_cons (e_tup es_nil rfl rfl) es_nil) rfl rfl)) (xs_nx (x_for (i_rng e_cst ⟨by decide, by decide⟩) hr) (xs_rt (x_ret e_cst)))))))
    have e3 : rngD 3 = [.int ((0 : Nat) : Int), .int ((1 : Nat) : Int), .int ((2 : Nat) : Int)] := rfl
    rw [e3] at hw
    unfold wb
    rw [hi]
    simp only [if_true]
    obtain ⟨a1, a2⟩ := way_turn scr s hn h (t := 0) (by decide) none none none
    cases h0 : (rowsAt n 0).find? fun b => isId n (a ++ b) with
    | some b =>
      rw [Option.some_or]
      refine (hw _ rfl).1 _ ?_
      unfold forGo
      simp only [bind_eq]
      exact b_ok (a1 b h0) rfl
    | none =>
      rw [Option.none_or]
      obtain ⟨y3, y4, y5, g0⟩ := a2 h0
      rw [if_pos (by decide)] at g0
      obtain ⟨b1, b2⟩ := way_turn scr s hn h (t := 1) (by decide) y4 y5 y3
      cases h1 : (rowsAt n 1).find? fun b => isId n (a ++ b) with
      | some b =>
        rw [Option.some_or]
        refine (hw _ rfl).1 _ ?_
        unfold forGo
        simp only [bind_eq]
        refine b_ok g0 ?_
        show forGo _ _ _ s = _
        unfold forGo
        simp only [bind_eq]
        exact b_ok (b1 b h1) rfl
      | none =>
        rw [Option.none_or]
        obtain ⟨z3, z4, z5, g1⟩ := b2 h1
        rw [if_pos (by decide)] at g1
        obtain ⟨c1, c2⟩ := way_turn scr s hn h (t := 2) (by decide) z4 z5 z3
        cases h2 : (rowsAt n 2).find? fun b => isId n (a ++ b) with
        | some b =>
          refine (hw _ rfl).1 _ ?_
          unfold forGo
          simp only [bind_eq]
          refine b_ok g0 ?_
          show forGo _ _ _ s = _
          unfold forGo
          simp only [bind_eq]
          refine b_ok g1 ?_
          show forGo _ _ _ s = _
          unfold forGo
          simp only [bind_eq]
          exact b_ok (c1 b h2) rfl
        | none =>
          obtain ⟨w3, w4, w5, g2⟩ := c2 h2
          rw [if_neg (by decide)] at g2
          refine (hw _ rfl).2 (wEnv n a [] w3 w4 w5) ?_
          unfold forGo
          simp only [bind_eq]
          refine b_ok g0 ?_
          show forGo _ _ _ s = _
          unfold forGo
          simp only [bind_eq]
          refine b_ok g1 ?_
          show forGo _ _ _ s = _
          unfold forGo
          simp only [bind_eq]
          refine b_ok g2 ?_
          rfl
end BP
set_option Elab.async false
set_option linter.all false
set_option maxRecDepth 100000
set_option maxHeartbeats 2000000
/-! What the draws give, in plain words. -/
namespace BK
open PySem
def TwOk (scr : List Int) (s : Twn) : Prop := (∀ p ∈ s.rests, 0 ≤ p.1 ∧ p.1 < (max 1 scr.length : Nat)) ∧ (s.rests.map (·.1)).Nodup
theorem TwOk.len {scr : List Int} {s : Twn} (h : TwOk scr s) : s.rests.length ≤ max 1 scr.length := by
  have h1 := List.Nodup.length_le_of_subset (l₂ := (List.range (max 1 scr.length)).map fun (i : Nat) => (i : Int)) h.2 (fun k hk => by
    obtain ⟨p, hp, rfl⟩ := List.mem_map.mp hk
    obtain ⟨a, b⟩ := h.1 p hp
    refine List.mem_map.mpr ⟨p.1.toNat, List.mem_range.mpr (by omega), by omega⟩)
  simpa using h1
theorem putR_keys (rs : List (Int × Int)) (k v : Int) : (putR rs k v).map (·.1) = if k ∈ rs.map (·.1) then rs.map (·.1) else rs.map (·.1) ++ [k] := by
  unfold putR
  by_cases h : k ∈ rs.map (·.1)
  · rw [if_pos h]
    obtain ⟨p, hp, e⟩ := List.mem_map.mp h
    have : (rs.any fun p => decide (p.1 = k)) = true := List.any_eq_true.mpr ⟨p, hp, decide_eq_true e⟩
    rw [if_pos this, List.map_map]
    congr 1
    funext q
    simp only [Function.comp]
    split <;> rfl
  · rw [if_neg h]
    have : ¬ (rs.any fun p => decide (p.1 = k)) = true := fun z => by
      obtain ⟨p, hp, e⟩ := List.any_eq_true.mp z
      exact h (List.mem_map.mpr ⟨p, hp, of_decide_eq_true e⟩)
    rw [if_neg this, List.map_append]
    rfl
theorem drawAt_ok (scr : List Int) (c : Int) : 0 ≤ drawAt scr c ∧ drawAt scr c < (max 1 scr.length : Nat) := by
  unfold drawAt
  split
  · omega
  · rename_i h
    have hl : 0 < scr.length := List.length_pos_iff.mpr h
    have h0 : 0 ≤ c % (scr.length : Int) := Int.emod_nonneg _ (by omega)
    have h1 : c % (scr.length : Int) < scr.length := Int.emod_lt_of_pos _ (by omega)
    omega
theorem put_tw {scr : List Int} {s : Twn} (h : TwOk scr s) (k v c : Int) (hk : 0 ≤ k ∧ k < (max 1 scr.length : Nat)) : TwOk scr ⟨c, putR s.rests k v⟩ := by
  have e := putR_keys s.rests k v
  have key : ∀ x : Int, x ∈ (putR s.rests k v).map (fun p => p.1) → 0 ≤ x ∧ x < (max 1 scr.length : Nat) := by
    intro x hx
    rw [e] at hx
    have old : x ∈ s.rests.map (fun p => p.1) → 0 ≤ x ∧ x < (max 1 scr.length : Nat) := fun hx => by
      obtain ⟨p, hp, rfl⟩ := List.mem_map.mp hx
      exact h.1 p hp
    split at hx
    · exact old hx
    · rcases List.mem_append.mp hx with hx | hx
      · exact old hx
      · rw [List.mem_singleton.mp hx]
        exact hk
  refine ⟨fun p hp => key _ (List.mem_map.mpr ⟨p, hp, rfl⟩), ?_⟩
  show ((putR s.rests k v).map (·.1)).Nodup
  rw [e]
  split
  · exact h.2
  · rename_i hn
    exact List.nodup_append.mpr ⟨h.2, by simp, fun a ha b hb => by
      rw [List.mem_singleton.mp hb]
      intro z
      exact hn (z ▸ ha)⟩
theorem draw_ok {scr : List Int} {s : Twn} {many : Int} (hl : scr.length ≤ 63) (h : TwOk scr s) (h0 : 0 < many) (h1 : many ≤ 1000) : ∃ v s', drawF scr [.scr, .town, int many] s = .ok (int v) s' ∧ 0 ≤ v ∧ v < many ∧ TwOk scr s' := by
  have hr := h.len
  refine ⟨drawV scr s many, drawN scr s many, ?_, ?_, ?_, ?_⟩
  · unfold drawF
    simp only [bind_eq]
    refine b_ok (of_ok rfl) ?_
    unfold drawM
    rw [if_pos ⟨h0, h1, by omega, by omega⟩]
  · unfold drawV
    split
    · exact Int.emod_nonneg _ (by omega)
    · exact Int.emod_nonneg _ (by omega)
  · unfold drawV
    split
    · exact Int.emod_lt_of_pos _ h0
    · exact Int.emod_lt_of_pos _ h0
  · unfold drawN
    split
    · exact put_tw h _ _ _ (drawAt_ok _ _)
    · exact h
/-- as a natural number -/
theorem draw_nat {scr : List Int} {s : Twn} {m : Nat} (hl : scr.length ≤ 63) (h : TwOk scr s) (h0 : 0 < m) (h1 : m ≤ 1000) : ∃ (v : Nat) (s' : Twn), drawF scr [.scr, .town, int (m : Int)] s = .ok (int (v : Int)) s' ∧ v < m ∧ TwOk scr s' := by
  obtain ⟨v, s', e, a, b, t⟩ := draw_ok (many := (m : Int)) hl h (by omega) (by omega)
  obtain ⟨k, rfl⟩ := Int.eq_ofNat_of_zero_le a
  exact ⟨k, s', e, by omega, t⟩
theorem tw_begin (scr : List Int) : TwOk scr ⟨0, []⟩ := ⟨fun p h => (by cases h), List.nodup_nil⟩
end BK
set_option Elab.async false
set_option linter.all false
set_option maxRecDepth 100000
set_option maxHeartbeats 1000000
/-! What the law draws: actions, plans, guards, starts. -/
namespace BP
open PySem BK
set_option hygiene false in
local macro_rules | `(tactic| w_fin) => `(tactic| repeat' (first
  | ((with_reducible apply K1) <;> rfl) | ((with_reducible apply K2) <;> rfl) | ((with_reducible apply K3) <;> rfl)
  | with_reducible exact e_cst | with_reducible exact e_gcon | ((with_reducible apply e_var) <;> rfl) | ((with_reducible apply e_varO) <;> rfl) | with_reducible exact es_nil | with_reducible exact an_nil | with_reducible exact or_nil | with_reducible exact xs_nil | with_reducible exact x_frz | with_reducible exact e_dnew | with_reducible exact ct_rt
  | with_reducible apply ct_nx | with_reducible apply xs_b
  | with_reducible apply es_cons | with_reducible apply e_tup | with_reducible apply e_lst | with_reducible apply e_bin | with_reducible apply e_cmp | with_reducible apply e_isN | with_reducible apply e_notN | with_reducible apply e_not | with_reducible apply e_chn | with_reducible apply e_and | with_reducible apply e_or | with_reducible apply an_b | with_reducible apply or_b
  | with_reducible apply e_idx | with_reducible apply e_slL | with_reducible apply e_slH | with_reducible apply e_sl2 | with_reducible apply e_slR | with_reducible apply e_call | with_reducible apply e_p1 | with_reducible apply e_isi | with_reducible apply e_ssort | with_reducible apply e_lenum | with_reducible apply e_dget | with_reducible apply e_done | with_reducible apply e_min2
  | with_reducible apply i_seq | with_reducible apply i_rng | with_reducible apply i_zip | with_reducible apply i_enum | with_reducible apply i_keys
  | with_reducible apply e_iteB | with_reducible apply x_iffB
  | with_reducible apply x_asg | with_reducible apply x_asgT | with_reducible apply x_own | with_reducible apply x_ret | with_reducible apply x_exp | with_reducible apply x_sto | with_reducible apply x_app | with_reducible apply x_ext | with_reducible apply x_par
  | ((with_reducible apply ifT); (first | rfl | assumption | focus (simp only [*, decide_true, decide_false, Bool.not_true, Bool.not_false, Bool.and_true, Bool.true_and, Bool.false_and, Bool.and_false, Bool.or_true, Bool.true_or, Bool.or_false, Bool.false_or, Bool.and_self, Bool.or_self]; done)))
  | ((with_reducible apply ifF); (first | rfl | assumption | focus (simp only [*, decide_true, decide_false, Bool.not_true, Bool.not_false, Bool.and_true, Bool.true_and, Bool.false_and, Bool.and_false, Bool.or_true, Bool.true_or, Bool.or_false, Bool.false_or, Bool.and_self, Bool.or_self]; done)))
  | with_reducible exact (Eq.refl (Res.ok (_ : Bool) _)) | with_reducible apply if_or | with_reducible apply if_and
  | assumption
  | exact xs_nil | apply e_tup | apply e_lst | apply x_asg | apply x_sto | apply x_app | apply x_ret
  | exact (Eq.refl (_ : Option _)) | exact (Eq.refl (_ : Bool))))
variable (scr : List Int) (s : Twn)
/-! ### an action is drawn -/
abbrev aEnv (n : Nat) (a : List Op) (x4 x5 x6 x7 : Option (Bool × D)) : BK.Env := [some (false, .scr), some (false, .town), some (false, int n), some (false, .dat (ad a)), x4, x5, x6, x7]
abbrev dBody : CSs := (.cons (.par [(false, 5), (false, 6)] (.cons (.call 60 (.cons (.var 0) (.cons (.var 1) (.cons (.cst (PyData.int 4)) .nil)))) (.cons (.call 60 (.cons (.var 0) (.cons (.var 1) (.cons (.var 2) .nil)))) .nil)))
    (.cons (.iff (.cmp .lt (.var 5) (.cst (PyData.int 2)))
    (.cons (.asg (.v 3) (.bin .add (.var 3) (.tup (.cons (.tup (.cons (.cst (PyData.str ("add" : PySem.Str))) (.cons (.var 6) (.cons (.bin .add (.cst (PyData.int 1)) (.call 60 (.cons (.var 0) (.cons (.var 1) (.cons (.cst (PyData.int 2)) .nil))))) .nil)))) .nil)))) .nil)
    (.cons (.iff (.or (.cons (.cmp .eq (.var 5) (.cst (PyData.int 2))) (.cons (.cmp .eq (.var 2) (.cst (PyData.int 1))) .nil)))
    (.cons (.asg (.v 3) (.bin .add (.var 3) (.tup (.cons (.tup (.cons (.cst (PyData.str ("set" : PySem.Str))) (.cons (.var 6) (.cons (.call 60 (.cons (.var 0) (.cons (.var 1) (.cons (.cst (PyData.int 3)) .nil)))) .nil)))) .nil)))) .nil)
    (.cons (.asg (.v 7) (.bin .add (.bin .add (.var 6) (.cst (PyData.int 1))) (.call 60 (.cons (.var 0) (.cons (.var 1) (.cons (.bin .sub (.var 2) (.cst (PyData.int 1))) .nil))))))
    (.cons (.asg (.v 3) (.bin .add (.var 3) (.tup (.cons (.tup (.cons (.cst (PyData.str ("copy" : PySem.Str))) (.cons (.var 6) (.cons (.bin .mod (.var 7) (.var 2)) .nil)))) .nil)))) .nil)))
    .nil)) .nil))
theorem turn_action {n : Nat} {a : List Op} (hl : scr.length ≤ 63) (hn : okN n) (ha : ∀ o ∈ a, o.ok n = true) (h3 : a.length ≤ 900) (ht : TwOk scr s) {x4 x5 x6 x7 : Option (Bool × D)} {k : Int} :
    ∃ o y4 y5 y6 y7 s', Op.ok n o = true ∧ TwOk scr s' ∧ (do
      let env' ← M.of (bindTg (.v 4) (.int k) (aEnv n a x4 x5 x6 x7))
      exs (callD fs61 scr) 100000 dBody env') s = .ok (.nx (aEnv n (a ++ [o]) y4 y5 y6 y7)) s' := by
  have h1 : 1 ≤ n ∧ n ≤ 3 := by rcases hn with rfl | rfl | rfl <;> decide
  obtain ⟨wy, s1, e1, w4, t1⟩ := draw_nat (m := 4) hl ht (by decide) (by decide)
  obtain ⟨it, s2, e2, i4, t2⟩ := draw_nat (m := n) hl t1 (by omega) (by omega)
  have hp : ex (callD fs61 scr) 100000 (.par [(false, 5), (false, 6)] (.cons (.call 60 (.cons (.var 0) (.cons (.var 1) (.cons (.cst (PyData.int 4)) .nil)))) (.cons (.call 60 (.cons (.var 0) (.cons (.var 1) (.cons (.var 2) .nil)))) .nil))) (aEnv n a (some (false, int k)) x5 x6 x7) s = .ok (.nx (aEnv n a (some (false, int k)) (some (false, int wy)) (some (false, int it)) x7)) s2 :=
    x_par (es_cons (e_call (es_cons (e_var rfl) (es_cons (e_var rfl) (es_cons e_cst es_nil))) e1) (es_cons (e_call (es_cons (e_var rfl) (es_cons (e_var rfl) (es_cons (e_var rfl) es_nil))) e2) es_nil)) rfl
  have hc : ev (callD fs61 scr) true (.cmp .lt (.var 5) (.cst (PyData.int 2))) (aEnv n a (some (false, int k)) (some (false, int wy)) (some (false, int it)) x7) s2 = .ok (bl (decide ((wy : Int) < 2))) s2 := e_cmp (e_var rfl) e_cst rfl
  by_cases hw : (wy : Int) < 2
  · rw [decide_eq_true hw] at hc
    obtain ⟨v, s3, e3, v2, t3⟩ := draw_nat (m := 2) hl t2 (by decide) (by decide)
    refine ⟨.add it (1 + v), some (false, int k), some (false, int wy), some (false, int it), x7, s3, by simp [Op.ok]; omega, t3, ?_⟩
    refine b_ok (of_ok rfl) (xs_nx hp (xs_nx (x_iffT hc (xs_nx (x_asg (e_bin (e_var rfl) (e_tup (es_cons (e_tup (ps := [.str "add", .int (it : Int), .int ((1 + v : Nat) : Int)]) (es_cons e_cst (es_cons (e_var rfl) (es_cons (e_bin (r := int ((1 + v : Nat) : Int)) e_cst (e_call (es_cons (e_var rfl) (es_cons (e_var rfl) (es_cons e_cst es_nil))) e3) ?_) es_nil))) rfl rfl) es_nil) rfl rfl) (ad_one a (.add it (1 + v)) h3))) xs_nil)) xs_nil))
    show some (int (1 + (v : Int))) = _
    rw [show ((1 + v : Nat) : Int) = 1 + (v : Int) by omega]
  · rw [decide_eq_false hw] at hc
    have ho : ev (callD fs61 scr) true (.or (.cons (.cmp .eq (.var 5) (.cst (PyData.int 2))) (.cons (.cmp .eq (.var 2) (.cst (PyData.int 1))) .nil))) (aEnv n a (some (false, int k)) (some (false, int wy)) (some (false, int it)) x7) s2 = .ok (bl (decide ((wy : Int) = 2) || (decide ((n : Int) = 1) || false))) s2 :=
      e_or (or_c (e_cmp (e_var rfl) e_cst (eq_int _ _)) (or_c (e_cmp (e_var rfl) e_cst (eq_int _ _)) or_nil))
    by_cases hq : (wy : Int) = 2 ∨ (n : Int) = 1
    · have hb : (decide ((wy : Int) = 2) || (decide ((n : Int) = 1) || false)) = true := by simpa using hq
      rw [hb] at ho
      obtain ⟨v, s3, e3, v2, t3⟩ := draw_nat (m := 3) hl t2 (by decide) (by decide)
      refine ⟨.set it v, some (false, int k), some (false, int wy), some (false, int it), x7, s3, by simp [Op.ok]; omega, t3, ?_⟩
      exact b_ok (of_ok rfl) (xs_nx hp (xs_nx (x_iffF hc (xs_nx (x_iffT ho (xs_nx (x_asg (e_bin (e_var rfl) (e_tup (es_cons (e_tup (es_cons e_cst (es_cons (e_var rfl) (es_cons (e_call (es_cons (e_var rfl) (es_cons (e_var rfl) (es_cons e_cst es_nil))) e3) es_nil))) rfl rfl) es_nil) rfl rfl) (ad_one a (.set it v) h3))) xs_nil)) xs_nil)) xs_nil))
    · have hb : (decide ((wy : Int) = 2) || (decide ((n : Int) = 1) || false)) = false := by
        rw [Bool.or_false, Bool.or_eq_false_iff]
        exact ⟨decide_eq_false fun z => hq (.inl z), decide_eq_false fun z => hq (.inr z)⟩
      rw [hb] at ho
      obtain ⟨v, s3, e3, v2, t3⟩ := draw_nat (m := n - 1) hl t2 (by omega) (by omega)
      have hj : (it + 1 + v) % n < n := Nat.mod_lt _ (by omega)
      have hne : it ≠ (it + 1 + v) % n := by
        have : n = 1 ∨ n = 2 ∨ n = 3 := hn
        intro z
        by_cases hb : it + 1 + v < n
        · rw [Nat.mod_eq_of_lt hb] at z
          omega
        · have : (it + 1 + v) % n = it + 1 + v - n := by
            rw [Nat.mod_eq_sub_mod (by omega), Nat.mod_eq_of_lt (by omega)]
          omega
      refine ⟨.cop it ((it + 1 + v) % n), some (false, int k), some (false, int wy), some (false, int it), some (false, int ((it + 1 + v : Nat) : Int)), s3, by simp [Op.ok, i4, hj, hne], t3, ?_⟩
      refine b_ok (of_ok rfl) (xs_nx hp (xs_nx (x_iffF hc (xs_nx (x_iffF ho (xs_nx (x_asg (d := int ((it + 1 + v : Nat) : Int)) (e_bin (e_bin (e_var rfl) e_cst rfl) (e_call (es_cons (e_var rfl) (es_cons (e_var rfl) (es_cons (e_bin (r := int ((n - 1 : Nat) : Int)) (e_var rfl) e_cst ?_) es_nil))) e3) ?_)) (xs_nx (x_asg (e_bin (e_var rfl) (e_tup (es_cons (e_tup (ps := [.str "copy", .int (it : Int), .int (((it + 1 + v) % n : Nat) : Int)]) (es_cons e_cst (es_cons (e_var rfl) (es_cons (e_bin (r := int (((it + 1 + v) % n : Nat) : Int)) (e_var rfl) (e_var rfl) ?_) es_nil))) rfl rfl) es_nil) rfl rfl) (ad_one a (.cop it ((it + 1 + v) % n)) h3))) xs_nil))) xs_nil)) xs_nil))
      · show some (int ((n : Int) - 1)) = _
        rw [show ((n - 1 : Nat) : Int) = (n : Int) - 1 by omega]
      · show some (int ((it : Int) + 1 + (v : Int))) = _
        rw [show ((it + 1 + v : Nat) : Int) = (it : Int) + 1 + (v : Int) by omega]
      · show (if (0 : Int) < n then some (int (((it + 1 + v : Nat) : Int) % (n : Int))) else none) = _
        rw [if_pos (by omega), ← Int.natCast_emod]
theorem r_action {n : Nat} (hl : scr.length ≤ 63) (hn : okN n) (ht : TwOk scr s) : ∃ a s', okA n a ∧ TwOk scr s' ∧ f_law_action scr [.scr, .town, int n] s = .ok (.dat (ad a)) s' := by
  obtain ⟨m, s1, e1, m4, t1⟩ := draw_nat (m := 4) hl ht (by decide) (by decide)
  have hrl : (rngD (m : Int)).length = m := by simp [rngD]
  obtain ⟨env', s', h1, a, y4, y5, y6, y7, rfl, ha, hle, ht'⟩ := for_inv (s := s1) (turn := fun x env => do
      let env' ← M.of (bindTg (.v 4) x env)
      exs (callD fs61 scr) 100000 dBody env') (xs := rngD (m : Int)) (env := aEnv n [] none none none none) (fun i env s' => ∃ a y4 y5 y6 y7, env = aEnv n a y4 y5 y6 y7 ∧ (∀ o ∈ a, Op.ok n o = true) ∧ a.length = i ∧ TwOk scr s') ⟨[], none, none, none, none, rfl, fun o h => (by cases h), rfl, t1⟩ (by
      rintro i x env s' hx ⟨a, y4, y5, y6, y7, rfl, ha, hle, ht'⟩
      have hi : i < m := by
        have := (List.getElem?_eq_some_iff.mp hx).1
        rwa [hrl] at this
      have hx : x = .int (i : Int) := by
        simp only [rngD, Int.toNat_natCast, List.getElem?_map, List.getElem?_range hi, Option.map_some, Option.some.injEq] at hx
        exact hx.symm
      subst hx
      obtain ⟨o, z4, z5, z6, z7, s2, ho, t2, e⟩ := turn_action scr s' (x4 := y4) (x5 := y5) (x6 := y6) (x7 := y7) (k := (i : Int)) hl hn ha (by omega) ht'
      refine ⟨_, s2, e, a ++ [o], z4, z5, z6, z7, rfl, fun q hq => ?_, by simp [hle], t2⟩
      rcases List.mem_append.mp hq with hq | hq
      · exact ha q hq
      · rw [List.mem_singleton.mp hq]; exact ho)
  refine ⟨a, s', ⟨by rw [hle, hrl]; omega, ha⟩, ht', ?_⟩
  unfold f_law_action
  exact r_fn rfl (xs_nx (x_asg (e_tup es_nil rfl rfl)) (xs_nx (x_for (i_rng (e_call (es_cons (e_var rfl) (es_cons (e_var rfl) (es_cons e_cst es_nil))) e1) ⟨by omega, by omega⟩) h1) (xs_rt (x_ret (e_var rfl)))))
end BP
set_option Elab.async false
set_option linter.all false
set_option maxRecDepth 100000
set_option maxHeartbeats 1000000
/-! The law's own steps: after, back_from, moves. -/
namespace BP
open PySem BK
set_option hygiene false in
local macro_rules | `(tactic| w_fin) => `(tactic| repeat' (first
  | ((with_reducible apply K1) <;> rfl) | ((with_reducible apply K2) <;> rfl) | ((with_reducible apply K3) <;> rfl) | ((with_reducible apply K4) <;> rfl) | ((with_reducible apply K5) <;> rfl) | ((with_reducible apply K6) <;> rfl) | ((with_reducible apply K7) <;> rfl)
  | with_reducible exact e_cst | with_reducible exact e_gcon | ((with_reducible apply e_var) <;> rfl) | ((with_reducible apply e_varO) <;> rfl) | with_reducible exact es_nil | with_reducible exact an_nil | with_reducible exact or_nil | with_reducible exact xs_nil | with_reducible exact x_frz | with_reducible exact e_dnew | with_reducible exact ct_rt
  | with_reducible apply ct_nx | with_reducible apply xs_b
  | with_reducible apply es_cons | with_reducible apply e_tup | with_reducible apply e_lst | with_reducible apply e_bin | with_reducible apply e_cmp | with_reducible apply e_isN | with_reducible apply e_notN | with_reducible apply e_not | with_reducible apply e_chn | with_reducible apply e_and | with_reducible apply e_or | with_reducible apply an_b | with_reducible apply or_b
  | with_reducible apply e_idx | with_reducible apply e_slL | with_reducible apply e_slH | with_reducible apply e_sl2 | with_reducible apply e_slR | with_reducible apply e_call | with_reducible apply e_p1 | with_reducible apply e_isi | with_reducible apply e_ssort | with_reducible apply e_lenum | with_reducible apply e_dget | with_reducible apply e_done | with_reducible apply e_min2
  | with_reducible apply i_seq | with_reducible apply i_rng | with_reducible apply i_zip | with_reducible apply i_enum | with_reducible apply i_keys
  | with_reducible apply e_iteB | with_reducible apply x_iffB
  | with_reducible apply x_asg | with_reducible apply x_asgT | with_reducible apply x_own | with_reducible apply x_ret | with_reducible apply x_exp | with_reducible apply x_sto | with_reducible apply x_app | with_reducible apply x_ext | with_reducible apply x_par
  | ((with_reducible apply ifT); (first | rfl | assumption | focus (simp only [*, decide_true, decide_false, Bool.not_true, Bool.not_false, Bool.and_true, Bool.true_and, Bool.false_and, Bool.and_false, Bool.or_true, Bool.true_or, Bool.or_false, Bool.false_or, Bool.and_self, Bool.or_self]; done)))
  | ((with_reducible apply ifF); (first | rfl | assumption | focus (simp only [*, decide_true, decide_false, Bool.not_true, Bool.not_false, Bool.and_true, Bool.true_and, Bool.false_and, Bool.and_false, Bool.or_true, Bool.true_or, Bool.or_false, Bool.false_or, Bool.and_self, Bool.or_self]; done)))
  | with_reducible exact (Eq.refl (Res.ok (_ : Bool) _)) | with_reducible apply if_or | with_reducible apply if_and
  | assumption
  | exact ct_rt | exact xs_nil | apply e_tup | apply e_lst | apply x_asg | apply x_sto | apply x_app | apply x_ret
  | exact (Eq.refl (_ : Option _)) | exact (Eq.refl (_ : Bool))))
variable (scr : List Int) (s : Twn)

/-! ### after -/
def nkv (x : List PyData) : List (L2.Key × PyData) := (enumFrom' 0 x).filterMap fun d => match d with
  | .tuple [.int i, v] => some (.inl i, v)
  | _ => none
/-- a row of numbered values -/
def rowK (k : Nat) : List Int → List (L2.Key × PyData)
  | [] => []
  | v :: vs => (.inl (k : Int), .int v) :: rowK (k + 1) vs
theorem rowK_keys : ∀ (k : Nat) (x : List Int), (rowK k x).map (·.1) = (List.range' k x.length).map fun i : Nat => (.inl (i : Int) : L2.Key)
  | k, [] => rfl
  | k, v :: x => by
    show (_ :: (rowK (k + 1) x).map (·.1)) = _
    rw [rowK_keys (k + 1) x]
    rfl
theorem look_row (j : Nat) : ∀ (k : Nat) (x : List Int), lookT (rowK k x) (.inl (j : Int) : L2.Key) = if k ≤ j then (x[j - k]?).map .int else none
  | k, [] => by
    show none = _
    simp
  | k, v :: x => by
    have ih := look_row j (k + 1) x
    show (((((.inl (k : Int) : L2.Key), PyData.int v) :: rowK (k + 1) x).find? fun p => decide (p.1 = (.inl (j : Int) : L2.Key))).map (·.2)) = _
    unfold lookT at ih
    rw [List.find?_cons]
    by_cases h : k = j
    · subst h
      simp
    · have h2 : ¬ ((.inl (k : Int) : L2.Key) = .inl (j : Int)) := fun z => h (by have := Sum.inl.inj z; omega)
      simp only [decide_eq_false h2]
      rw [ih]
      by_cases h3 : k + 1 ≤ j
      · rw [if_pos h3, if_pos (by omega)]
        have : j - k = (j - (k + 1)) + 1 := by omega
        rw [this, List.getElem?_cons_succ]
      · rw [if_neg h3, if_neg (by omega)]
theorem put_map (j : Nat) (d : Int) : ∀ (k : Nat) (x : List Int), k ≤ j → ((rowK k x).map fun p => if p.1 = (.inl (j : Int) : L2.Key) then (p.1, PyData.int d) else p) = rowK k (x.set (j - k) d)
  | k, [], _ => rfl
  | k, v :: x, h => by
    show (_ :: (rowK (k + 1) x).map _) = _
    by_cases hk : k = j
    · subst hk
      rw [Nat.sub_self, List.set_cons_zero]
      show (_ :: _) = (.inl (k : Int), .int d) :: rowK (k + 1) x
      congr 1
      · simp
      · have key : ∀ (m : Nat) (y : List Int), k < m → ((rowK m y).map fun p => if p.1 = (.inl (k : Int) : L2.Key) then (p.1, PyData.int d) else p) = rowK m y := by
          intro m y
          induction y generalizing m with
          | nil => intro _; rfl
          | cons w y ih =>
            intro hm
            show (_ :: (rowK (m + 1) y).map _) = (.inl (m : Int), .int w) :: rowK (m + 1) y
            rw [ih (m + 1) (by omega)]
            congr 1
            refine if_neg ?_
            intro z
            have := Sum.inl.inj z
            omega
        exact key (k + 1) x (by omega)
    · have e : j - k = (j - (k + 1)) + 1 := by omega
      rw [e, List.set_cons_succ]
      show (_ :: _) = (.inl (k : Int), .int v) :: rowK (k + 1) (x.set (j - (k + 1)) d)
      rw [put_map j d (k + 1) x (by omega)]
      congr 1
      refine if_neg ?_
      intro z
      have := Sum.inl.inj z
      omega
theorem putT_row {x : List Int} {j : Nat} (d : Int) (h : j < x.length) : putT (rowK 0 x) (.inl (j : Int) : L2.Key) (.int d) = rowK 0 (x.set j d) := by
  unfold putT
  rw [look_row, if_pos (Nat.zero_le _), Nat.sub_zero, List.getElem?_eq_getElem h]
  show (if true = true then _ else _) = _
  rw [if_pos rfl, put_map j d 0 x (Nat.zero_le _), Nat.sub_zero]
theorem dict_row : ∀ (k : Nat) (x : List Int) (kvs : List (L2.Key × PyData)), (∀ q ∈ kvs, ∀ i : Nat, q.1 = .inl (i : Int) → i < k) → pairK (enumFrom' k (x.map PyData.int)) = some (rowK k x) ∧ (rowK k x).foldl (fun kvs p => putT kvs p.1 p.2) kvs = kvs ++ rowK k x
  | k, [], kvs, _ => ⟨rfl, (List.append_nil _).symm⟩
  | k, v :: x, kvs, h => by
    have hn : lookT kvs (.inl (k : Int) : L2.Key) = none := by
      unfold lookT
      rw [Option.map_eq_none_iff, List.find?_eq_none]
      intro q hq z
      have := h q hq k (of_decide_eq_true z)
      omega
    have hput : putT kvs (.inl (k : Int) : L2.Key) (.int v) = kvs ++ [(.inl (k : Int), .int v)] := by
      unfold putT
      rw [hn]
      rfl
    obtain ⟨h1, h2⟩ := dict_row (k + 1) x (kvs ++ [(.inl (k : Int), .int v)]) fun q hq i e => by
      rcases List.mem_append.mp hq with hq | hq
      · have := h q hq i e
        omega
      · rw [List.mem_singleton.mp hq] at e
        have := Sum.inl.inj e
        omega
    refine ⟨?_, ?_⟩
    · show (match kkey (.int (k : Int)), pairK (enumFrom' (k + 1) (x.map PyData.int)) with | some k, some r => some ((k, PyData.int v) :: r) | _, _ => none) = _
      rw [h1]
      rfl
    · show (rowK (k + 1) x).foldl _ (putT kvs (.inl (k : Int)) (.int v)) = _
      rw [hput, h2]
      simp [rowK]
theorem enum_len : ∀ (k : Nat) (l : List PyData), (enumFrom' k l).length = l.length
  | k, [] => rfl
  | k, d :: l => by
    show (enumFrom' (k + 1) l).length + 1 = _
    rw [enum_len (k + 1) l]
    rfl
theorem opDict_row {x : List Int} (h : x.length ≤ 1000) : opDict (lst (enumFrom' 0 (x.map PyData.int))) = some (rowK 0 x) := by
  obtain ⟨h1, h2⟩ := dict_row 0 x [] fun q hq => by cases hq
  show (if (enumFrom' 0 (x.map PyData.int)).length ≤ 1000 then (pairK (enumFrom' 0 (x.map PyData.int))).map fun ps => ps.foldl (fun kvs p => putT kvs p.1 p.2) [] else none) = _
  rw [if_pos (by rw [enum_len, List.length_map]; exact h), h1]
  show some ((rowK 0 x).foldl (fun kvs p => putT kvs p.1 p.2) []) = _
  rw [h2]
  rfl
theorem idx_row {x : List Int} {j : Nat} (h : j < x.length) : opIdx (.dK (rowK 0 x)) (int (j : Int)) = some (int (x.getD j 0)) := by
  show (lookT (rowK 0 x) (.inl (j : Int) : L2.Key)).map D.dat = _
  rw [look_row, if_pos (Nat.zero_le _), Nat.sub_zero, List.getElem?_eq_getElem h]
  simp [List.getD_eq_getElem?_getD, h]
theorem rowK_len : ∀ (k : Nat) (x : List Int), (rowK k x).length = x.length
  | k, [] => rfl
  | k, v :: x => by
    show (rowK (k + 1) x).length + 1 = _
    rw [rowK_len (k + 1) x]
    rfl
theorem sto_row {x : List Int} {j : Nat} (v : Int) (hx : x.length ≤ 1000) (h : j < x.length) : stoD (.dK (rowK 0 x)) (.int (j : Int)) (.int v) = some (.dK (rowK 0 (x.set j v))) := by
  show ((kkey (.int (j : Int))).bind fun k => if (rowK 0 x).length < sizeLine then some (D.dK (putT (rowK 0 x) k (.int v))) else none) = _
  show (if (rowK 0 x).length < sizeLine then some (D.dK (putT (rowK 0 x) (.inl (j : Int)) (.int v))) else none) = _
  rw [if_pos (by rw [rowK_len, sizeLine_eq]; omega), putT_row v h]
abbrev laB : CSs := (.cons (.iff (.cmp .eq (.var 3) (.cst (PyData.str ("copy" : PySem.Str))))
    (.cons (.sto 2 (.var 5) (.idx (.var 2) (.var 4)))
    .nil)
    (.cons (.sto 2 (.var 4) (.ite (.cmp .eq (.var 3) (.cst (PyData.str ("set" : PySem.Str)))) (.var 5) (.bin .mod (.bin .add (.idx (.var 2) (.var 4)) (.var 5)) (.cst (PyData.int 3)))))
    .nil))
    .nil)
abbrev laEnv (A S : PyData) (x : List Int) (x3 x4 x5 : Option (Bool × D)) : BK.Env := [some (false, .dat A), some (false, .dat S), some (true, .dK (rowK 0 x)), x3, x4, x5]
theorem eq_strs2 : opCmp .eq (str ("copy" : PySem.Str)) (str ("copy" : PySem.Str)) = some true ∧ opCmp .eq (str ("set" : PySem.Str)) (str ("copy" : PySem.Str)) = some false ∧ opCmp .eq (str ("add" : PySem.Str)) (str ("copy" : PySem.Str)) = some false ∧ opCmp .eq (str ("set" : PySem.Str)) (str ("set" : PySem.Str)) = some true ∧ opCmp .eq (str ("add" : PySem.Str)) (str ("set" : PySem.Str)) = some false := by decide +kernel
theorem turn_la {n : Nat} {o : Op} {A S : PyData} {x : List Int} {x3 x4 x5 : Option (Bool × D)} (hn : n ≤ 3) (ho : o.ok n = true) (hx : x.length = n) : ∃ y3 d4 y5, (do
      let env' ← M.of (bindTg (.t [(.v 3), (.v 4), (.v 5)]) o.d (laEnv A S x x3 x4 x5))
      exs (callD fs58 scr) 100000 laB env') s = .ok (.nx (laEnv A S (appl1 o x) y3 (some (false, d4)) y5)) s := by
  obtain ⟨e1, e2, e3, e4, e5⟩ := eq_strs2
  cases o with
  | set i v =>
    simp only [Op.ok, Bool.and_eq_true, decide_eq_true_eq] at ho
    have h1 := sto_row (x := x) (j := i) (v : Int) (by omega) (by omega)
    refine ⟨some (false, str "set"), int (i : Int), some (false, int (v : Int)), b_ok (of_ok rfl) ?_⟩
    show _ = Res.ok (Fl.nx (laEnv A S (x.set i (v : Int)) _ _ _)) s
    w_fin
  | add i v =>
    simp only [Op.ok, Bool.and_eq_true, decide_eq_true_eq] at ho
    have h1 := sto_row (x := x) (j := i) ((x.getD i 0 + (v : Int)) % 3) (by omega) (by omega)
    have h2 := idx_row (x := x) (j := i) (by omega)
    have h3 : opBin .add (int (x.getD i 0)) (int (v : Int)) = some (int (x.getD i 0 + (v : Int))) := rfl
    have h4 : opBin .mod (int (x.getD i 0 + (v : Int))) (int 3) = some (int ((x.getD i 0 + (v : Int)) % 3)) := rfl
    refine ⟨some (false, str "add"), int (i : Int), some (false, int (v : Int)), b_ok (of_ok rfl) ?_⟩
    show _ = Res.ok (Fl.nx (laEnv A S (x.set i ((x.getD i 0 + (v : Int)) % 3)) _ _ _)) s
    w_fin
  | cop i j =>
    simp only [Op.ok, Bool.and_eq_true, decide_eq_true_eq] at ho
    have h1 := sto_row (x := x) (j := j) (x.getD i 0) (by omega) (by omega)
    have h2 := idx_row (x := x) (j := i) (by omega)
    refine ⟨some (false, str "copy"), int (i : Int), some (false, int (j : Int)), b_ok (of_ok rfl) ?_⟩
    show _ = Res.ok (Fl.nx (laEnv A S (x.set j (x.getD i 0)) _ _ _)) s
    w_fin
theorem range_row : ∀ x : List Int, (List.range x.length).map (fun j => x.getD j 0) = x := fun x => by
  refine List.ext_getElem? fun j => ?_
  rw [List.getElem?_map]
  by_cases h : j < x.length
  · rw [List.getElem?_range h]
    simp [List.getD_eq_getElem?_getD, h]
  · rw [List.getElem?_eq_none (by simpa using h), List.getElem?_eq_none (by simpa using h)]
    rfl
theorem r_law_after {n : Nat} {a : List Op} {x : St} (hn : okN n) (ha : ∀ o ∈ a, o.ok n = true) (hx : x.length = n) : f_law_after scr [.dat (ad a), .dat (sd x)] s = .ok (.dat (sd (appl a x))) s := by
  have hn3 : n ≤ 3 := by rcases hn with rfl | rfl | rfl <;> omega
  unfold f_law_after
  have key : ∀ (a : List Op), (∀ o ∈ a, o.ok n = true) → ∀ (y : St) (x3 x4 x5 : Option (Bool × D)) (A : PyData), y.length = n → (x4 = none ∨ ∃ d, x4 = some (false, d)) → ∃ y3 y4 y5, (y4 = none ∨ ∃ d, y4 = some (false, d)) ∧ forGo (fun z env => do
      let env' ← M.of (bindTg (.t [(.v 3), (.v 4), (.v 5)]) z env)
      exs (callD fs58 scr) 100000 laB env') (a.map Op.d) (laEnv A (sd x) y x3 x4 x5) s = .ok (.nx (laEnv A (sd x) (appl a y) y3 y4 y5)) s := by
    intro a
    induction a with
    | nil => intro _ y x3 x4 x5 A hy hq; exact ⟨x3, x4, x5, hq, rfl⟩
    | cons o a ih =>
      intro ha y x3 x4 x5 A hy hq
      obtain ⟨y3, y4, y5, e⟩ := turn_la scr s (A := A) (S := sd x) (x := y) (x3 := x3) (x4 := x4) (x5 := x5) hn3 (ha o List.mem_cons_self) hy
      obtain ⟨z3, z4, z5, hz, e2⟩ := ih (fun q hq => ha q (List.mem_cons_of_mem _ hq)) (appl1 o y) y3 (some (false, y4)) y5 A (by rw [appl1_len]; exact hy) (.inr ⟨_, rfl⟩)
      refine ⟨z3, z4, z5, hz, ?_⟩
      rw [List.map_cons]
      unfold forGo
      simp only [bind_eq]
      exact b_ok e e2
  obtain ⟨y3, y4, y5, hy4, e⟩ := key a ha x none none none (ad a) hx (.inl rfl)
  have e0 : opDict (lst (enumFrom' 0 (x.map PyData.int))) = some (rowK 0 x) := opDict_row (by omega)
  have hl : (appl a x).length = n := by rw [appl_len]; exact hx
  have e1 : ev (callD fs58 scr) true (.p1 .tuple (.lc [4] (.v 4) (.rng (.p1 .len (.var 1))) (.idx (.var 2) (.var 4)))) (laEnv (ad a) (sd x) (appl a x) y3 y4 y5) s = .ok (.dat (sd (appl a x))) s := by
    have e2 : evI (callD fs58 scr) false (.rng (.p1 .len (.var 1))) (laEnv (ad a) (sd x) (appl a x) y3 y4 y5) s = .ok ((List.range n).map fun i : Nat => PyData.int (i : Int)) s := by
      have := i_rng (md := false) (G := callD fs58 scr) (env := laEnv (ad a) (sd x) (appl a x) y3 y4 y5) (s := s) (s1 := s) (e := .p1 .len (.var 1)) (n := ((x.map PyData.int).length : Int)) (e_p1 (e_var rfl) rfl) (by rw [List.length_map, hx]; omega)
      rw [this, List.length_map, hx]
      rfl
    refine e_p1 (e_lc e2 (by rcases hy4 with rfl | ⟨d, rfl⟩ <;> rfl) (go_mapG (g := fun i : Nat => PyData.int (i : Int)) (f := fun i : Nat => PyData.int ((appl a x).getD i 0)) fun i hi => lc_turn rfl ?_) (fits_small (by rw [List.length_map, List.length_range]; omega))) ?_
    · have hi := List.mem_range.mp hi
      have h2 := idx_row (x := appl a x) (j := i) (by omega)
      exact e_idx (e_varO rfl) (e_varO rfl) h2
    · show some (tup ((List.range n).map fun i => PyData.int ((appl a x).getD i 0))) = _
      have := range_row (appl a x)
      rw [hl] at this
      unfold sd
      rw [← this, List.map_map]
      rw [this]
      rfl
  refine r_fn rfl (xs_nx (x_own (e_dke (e_lenum (e_varO rfl) (by rw [List.length_map]; omega)) e0)) (xs_nx (x_for (i_seq (x := .dat (ad a)) (e_var rfl) rfl) e) (xs_rt (x_ret e1))))
end BP
set_option Elab.async false
set_option linter.all false
set_option maxRecDepth 100000
/-! Evaluation by hand: errors. -/
namespace BK
open PySem
variable {G : Nat → Fun} {fu : Nat} {md : Bool} {env env' : Env} {s s1 s2 s3 : Twn}
theorem b_ex {α β : Type} {x : M α} {f : α → M β} {c : Nat} (h : x s = .exc c s1) : M.bnd x f s = .exc c s1 := by
  unfold M.bnd
  rw [h]
theorem e_resO {e : CE} {d : PyData} (h : ev G true e env s = .ok (.dat d) s1) : ev G md (.res e) env s = .ok (tup [.str "returns", d]) s1 := by
  simp only [ev, h]
theorem e_resE {e : CE} {c : Nat} (h : ev G true e env s = .exc c s1) (hc : c < 12) : ev G md (.res e) env s = .ok (tup [.str (resName c)]) s1 := by
  simp only [ev, h, if_pos hc]
theorem e_callX {f : Nat} {es : CEs} {ds : List D} {c : Nat} (h1 : evs G es env s = .ok ds s1) (h2 : G f ds s1 = .exc c s2) : ev G md (.call f es) env s = .exc c s2 := by
  simp only [ev, bind_eq]
  exact b_ok h1 h2
theorem x_expX {e : CE} {c : Nat} (h : ev G true e env s = .exc c s1) : ex G fu (.exp e) env s = .exc c s1 := by
  simp only [ex, bind_eq]
  exact b_ex h
theorem x_retX {e : CE} {c : Nat} (h : ev G true e env s = .exc c s1) : ex G fu (.ret e) env s = .exc c s1 := by
  simp only [ex, bind_eq]
  exact b_ex h
theorem x_rai {c : Nat} : ex G fu (.rai c) env s = .exc c s := rfl
theorem xs_ex {c : CS} {r : CSs} {k : Nat} (h1 : ex G fu c env s = .exc k s1) : exs G fu (.cons c r) env s = .exc k s1 := by
  simp only [exs, bind_eq]
  exact b_ex h1
theorem r_fnX {f : CF} {ds : List D} {c : Nat} (hl : ds.length = f.np) (h : exs G fu f.body (ds.map (fun d => some (false, d)) ++ List.replicate (f.ns - f.np) none) s = .exc c s1) : runF G fu f ds s = .exc c s1 := by
  unfold runF
  rw [if_pos hl]
  simp only [bind_eq]
  exact b_ex h
/-- a loop by an invariant, then the rest -/
theorem xs_forE {tg : Tg} {it : CI} {body r : CSs} {xs : List PyData} {d : D} (I : Nat → Env → Twn → Prop) (h : evI G true it env s = .ok xs s1) (h0 : I 0 env s1)
    (hs : ∀ i x env s, xs[i]? = some x → I i env s → ∃ env' s', (do let env' ← M.of (bindTg tg x env); exs G fu body env' : M Fl) s = .ok (.nx env') s' ∧ I (i + 1) env' s')
    (k : ∀ env' s', I xs.length env' s' → ∃ s2, exs G fu r env' s' = .ok (.rt d) s2) : ∃ s2, exs G fu (.cons (.for tg it body) r) env s = .ok (.rt d) s2 := by
  obtain ⟨env', s', h1, h2⟩ := for_inv (s := s1) I h0 hs
  obtain ⟨s2, h3⟩ := k env' s' h2
  exact ⟨s2, xs_nx (x_for h h1) h3⟩
/-- a loop by an invariant, then the rest, which goes on -/
theorem xs_forN {tg : Tg} {it : CI} {body r : CSs} {xs : List PyData} {P : Env → Twn → Prop} (I : Nat → Env → Twn → Prop) (h : evI G true it env s = .ok xs s1) (h0 : I 0 env s1)
    (hs : ∀ i x env s, xs[i]? = some x → I i env s → ∃ env' s', (do let env' ← M.of (bindTg tg x env); exs G fu body env' : M Fl) s = .ok (.nx env') s' ∧ I (i + 1) env' s')
    (k : ∀ env' s', I xs.length env' s' → ∃ e2 s2, exs G fu r env' s' = .ok (.nx e2) s2 ∧ P e2 s2) : ∃ e2 s2, exs G fu (.cons (.for tg it body) r) env s = .ok (.nx e2) s2 ∧ P e2 s2 := by
  obtain ⟨env', s', h1, h2⟩ := for_inv (s := s1) I h0 hs
  obtain ⟨e2, s2, h3, h4⟩ := k env' s' h2
  exact ⟨e2, s2, xs_nx (x_for h h1) h3, h4⟩
theorem xs_nxN {c : CS} {r : CSs} {P : Env → Twn → Prop} (h1 : ex G fu c env s = .ok (.nx env') s1) (h2 : ∃ e2 s2, exs G fu r env' s1 = .ok (.nx e2) s2 ∧ P e2 s2) : ∃ e2 s2, exs G fu (.cons c r) env s = .ok (.nx e2) s2 ∧ P e2 s2 := by
  obtain ⟨e2, s2, h3, h4⟩ := h2
  exact ⟨e2, s2, xs_nx h1 h3, h4⟩
end BK
set_option Elab.async false
set_option linter.all false
set_option maxRecDepth 100000
set_option maxHeartbeats 1000000
/-! The first law: what is no action, no state. -/
namespace K01
open PySem BK BP
variable (scr : List Int) (s : Twn)
abbrev E (x2 x3 x4 x5 x6 x7 x8 x9 x10 : Option (Bool × D)) : BK.Env := [some (false, .scr), some (false, .town), x2, x3, x4, x5, x6, x7, x8, x9, x10]
def Fr (x : Option (Bool × D)) : Prop := x = none ∨ ∃ d, x = some (false, d)
def zs (n : Nat) : List PyData := List.replicate n (.int 0)
def badsL (n : Nat) : List PyData := [.tuple ((zs n).drop 1 ++ [.int 3]), .tuple ((zs n).drop 1 ++ [.bool true]), .tuple ((zs n).drop 1 ++ [.str "0"]), .none, .tuple (zs n ++ [.int 0]), .tuple ((zs n).drop 1), .list (zs n)]
def oddsL (n : Nat) : List PyData := [.tuple [.str "set", .int 0, .int 3], .tuple [.str "set", .int 0, .int (-1)], .tuple [.str "set", .int n, .int 0], .tuple [.str "add", .int 0, .int 0], .tuple [.str "add", .int 0, .int 3], .tuple [.str "copy", .int 0, .int 0],
  .list [.str "set", .int 0, .int 0], .tuple [.str "copy", .int 0, .int n], .tuple [.str "Set", .int 0, .int 0], .tuple [.str "set", .int 0], .tuple [.str "set", .int 0, .int 0, .int 0], .tuple [.int 0, .int 0, .int 0], .none, .tuple [],
  .str "set", .tuple [.str "set"], .tuple [.str "set", .bool true, .int 0], .tuple [.str "set", .int 0, .bool true], .tuple [.str "add", .int 0, .bool true], .tuple [.str "copy", .bool false, .int 1], .tuple [.str "set", .str "0", .int 0]]
theorem okN.cases {n : Nat} {P : Nat → Prop} (h : okN n) (h1 : P 1) (h2 : P 2) (h3 : P 3) : P n := by
  rcases h with rfl | rfl | rfl
  · exact h1
  · exact h2
  · exact h3
theorem bad_1 (n : Nat) (hn : okN n) : ∀ d ∈ badsL n, f_is_state_of scr [int n, .dat d] s = .ok (bl false) s := by
  rcases hn with rfl | rfl | rfl
  · unfold badsL
    repeat (refine List.forall_mem_cons.mpr ⟨by kernel_rfl, ?_⟩)
    intro d h
    cases h
  · unfold badsL
    repeat (refine List.forall_mem_cons.mpr ⟨by kernel_rfl, ?_⟩)
    intro d h
    cases h
  · unfold badsL
    repeat (refine List.forall_mem_cons.mpr ⟨by kernel_rfl, ?_⟩)
    intro d h
    cases h
theorem is_t (b : Bool) : f_law_is scr [bl b, bl b] s = .ok (bl true) s := by
  cases b
  · kernel_rfl
  · kernel_rfl
theorem r_is_state {n : Nat} (hn : okN n) {d : PyData} {b : Bool} (h : f_is_state_of scr [int n, .dat d] s = .ok (bl b) s) : f_is_state scr [int n, .dat d] s = .ok (bl b) s := by
  unfold f_is_state
  exact r_fn rfl (xs_nx (x_exp (e_call (es_cons (e_var rfl) es_nil) (r_check_items scr s hn))) (xs_rt (x_ret (e_call (es_cons (e_var rfl) (es_cons (e_var rfl) es_nil)) h))))
theorem r_is_action {n : Nat} (hn : okN n) {d : PyData} {b : Bool} (h : f_is_action_of scr [int n, .dat d] s = .ok (bl b) s) : f_is_action scr [int n, .dat d] s = .ok (bl b) s := by
  unfold f_is_action
  exact r_fn rfl (xs_nx (x_exp (e_call (es_cons (e_var rfl) es_nil) (r_check_items scr s hn))) (xs_rt (x_ret (e_call (es_cons (e_var rfl) (es_cons (e_var rfl) es_nil)) h))))
theorem r_after_bad {n : Nat} {a : List Op} (hn : okN n) (h : okA n a) {d : PyData} (hd : f_is_state_of scr [int n, .dat d] s = .ok (bl false) s) : f_after scr [int n, .dat (ad a), .dat d] s = .exc 2 s := by
  unfold f_after
  exact r_fnX rfl (xs_nx (x_exp (e_call (es_cons (e_var rfl) es_nil) (r_check_items scr s hn))) (xs_nx (x_exp (e_call (es_cons (e_var rfl) (es_cons (e_var rfl) es_nil)) (r_check_action scr s hn h)))
    (xs_ex (x_iffT (e_not (e_call (es_cons (e_var rfl) (es_cons (e_var rfl) es_nil)) hd) rfl) (xs_ex x_rai)))))
theorem law_states_ok {n : Nat} (hn : okN n) : f_law_states scr [int n] s = .ok (lst ((statesL n).map sd)) s := by
  rcases hn with rfl | rfl | rfl
  · kernel_rfl
  · kernel_rfl
  · kernel_rfl
section
variable {x2 x3 x4 x5 x6 x7 x8 x9 x10 : Option (Bool × D)}
theorem t1 {n : Nat} (hn : okN n) : ex (callD fs73 scr) 100000 (.iff (.cmp .ne (.call 9 (.cons (.var 2) .nil)) (.p1 .tuple (.call 59 (.cons (.var 2) .nil)))) (.cons (.ret (.cst (PyData.bool false))) .nil) .nil) (E (some (false, int n)) x3 x4 x5 x6 x7 x8 x9 x10) s = .ok (.nx (E (some (false, int n)) x3 x4 x5 x6 x7 x8 x9 x10)) s := by
  rcases hn with rfl | rfl | rfl
  · kernel_rfl
  · kernel_rfl
  · kernel_rfl
theorem t2 {n : Nat} (hn : okN n) : ex (callD fs73 scr) 100000 (.asg (.v 4) (.call 72 (.cons (.var 2) .nil))) (E (some (false, int n)) x3 x4 x5 x6 x7 x8 x9 x10) s = .ok (.nx (E (some (false, int n)) x3 (some (false, lst (oddsL n))) x5 x6 x7 x8 x9 x10)) s := by
  rcases hn with rfl | rfl | rfl
  · kernel_rfl
  · kernel_rfl
  · kernel_rfl
theorem t3 {n : Nat} (hn : okN n) (h3 : Fr x3) : ex (callD fs73 scr) 100000 (.iff (.cmp .ne (.lcIf [3] (.v 3) (.seq (.var 4)) (.not (.call 57 (.cons (.call 71 (.cons (.var 2) (.cons (.tup (.cons (.var 3) .nil)) .nil))) (.cons (.cst (PyData.bool false)) .nil)))) (.var 3)) (.lst .nil)) (.cons (.ret (.cst (PyData.bool false))) .nil) .nil)
    (E (some (false, int n)) x3 (some (false, lst (oddsL n))) x5 x6 x7 x8 x9 x10) s = .ok (.nx (E (some (false, int n)) x3 (some (false, lst (oddsL n))) x5 x6 x7 x8 x9 x10)) s := by
  rcases hn with rfl | rfl | rfl <;> rcases h3 with rfl | ⟨d, rfl⟩
  · kernel_rfl
  · kernel_rfl
  · kernel_rfl
  · kernel_rfl
  · kernel_rfl
  · kernel_rfl
theorem t5 {n : Nat} (hn : okN n) {xs : List PyData} : ex (callD fs73 scr) 100000 (.iff (.not (.call 57 (.cons (.call 71 (.cons (.var 2) (.cons (.p1 .list (.var 7)) .nil))) (.cons (.cst (PyData.bool false)) .nil)))) (.cons (.ret (.cst (PyData.bool false))) .nil) .nil)
    (E (some (false, int n)) x3 x4 x5 x6 (some (false, tup xs)) x8 x9 x10) s = .ok (.nx (E (some (false, int n)) x3 x4 x5 x6 (some (false, tup xs)) x8 x9 x10)) s := by
  rcases hn with rfl | rfl | rfl
  · kernel_rfl
  · kernel_rfl
  · kernel_rfl
theorem t6 {n : Nat} (hn : okN n) {xs : List PyData} (hx : xs.length ≤ 3) : ex (callD fs73 scr) 100000 (.iff (.not (.call 57 (.cons (.call 71 (.cons (.var 2) (.cons (.slH (.bin .add (.var 7) (.bin .mul (.tup (.cons (.tup (.cons (.cst (PyData.str ("set" : PySem.Str))) (.cons (.cst (PyData.int 0)) (.cons (.cst (PyData.int 0)) .nil)))) .nil)) (.cst (PyData.int 4)))) (.cst (PyData.int 4))) .nil))) (.cons (.cst (PyData.bool false)) .nil)))) (.cons (.ret (.cst (PyData.bool false))) .nil) .nil)
    (E (some (false, int n)) x3 x4 x5 x6 (some (false, tup xs)) x8 x9 x10) s = .ok (.nx (E (some (false, int n)) x3 x4 x5 x6 (some (false, tup xs)) x8 x9 x10)) s := by
  match xs, hx with
  | [], _ => rcases hn with rfl | rfl | rfl <;> kernel_rfl
  | [_], _ => rcases hn with rfl | rfl | rfl <;> kernel_rfl
  | [_, _], _ => rcases hn with rfl | rfl | rfl <;> kernel_rfl
  | [_, _, _], _ => rcases hn with rfl | rfl | rfl <;> kernel_rfl
  | _ :: _ :: _ :: _ :: l, h => simp at h
theorem t8 {n : Nat} (hn : okN n) : ex (callD fs73 scr) 100000 (.asg (.v 9) (.bin .mul (.tup (.cons (.cst (PyData.int 0)) .nil)) (.var 2))) (E (some (false, int n)) x3 x4 x5 x6 x7 x8 x9 x10) s = .ok (.nx (E (some (false, int n)) x3 x4 x5 x6 x7 x8 (some (false, tup (zs n))) x10)) s := by
  rcases hn with rfl | rfl | rfl
  · kernel_rfl
  · kernel_rfl
  · kernel_rfl
theorem t9 {n : Nat} (hn : okN n) : ex (callD fs73 scr) 100000 (.asg (.v 10) (.lst (.cons (.bin .add (.slL (.var 9) (.cst (PyData.int 1))) (.tup (.cons (.cst (PyData.int 3)) .nil))) (.cons (.bin .add (.slL (.var 9) (.cst (PyData.int 1))) (.tup (.cons (.cst (PyData.bool true)) .nil))) (.cons (.bin .add (.slL (.var 9) (.cst (PyData.int 1))) (.tup (.cons (.cst (PyData.str ("0" : PySem.Str))) .nil))) .nil)))))
    (E (some (false, int n)) x3 x4 x5 x6 x7 x8 (some (false, tup (zs n))) x10) s = .ok (.nx (E (some (false, int n)) x3 x4 x5 x6 x7 x8 (some (false, tup (zs n))) (some (false, lst ((badsL n).take 3))))) s := by
  rcases hn with rfl | rfl | rfl
  · kernel_rfl
  · kernel_rfl
  · kernel_rfl
theorem i10 {n : Nat} (hn : okN n) : evI (callD fs73 scr) true (.seq (.bin .add (.var 10) (.lst (.cons (.cst PyData.none) (.cons (.bin .add (.var 9) (.tup (.cons (.cst (PyData.int 0)) .nil))) (.cons (.slL (.var 9) (.cst (PyData.int 1))) (.cons (.p1 .list (.var 9)) .nil))))))) (E (some (false, int n)) x3 x4 x5 x6 x7 x8 (some (false, tup (zs n))) (some (false, lst ((badsL n).take 3)))) s = .ok (badsL n) s := by
  rcases hn with rfl | rfl | rfl
  · kernel_rfl
  · kernel_rfl
  · kernel_rfl
theorem t11 {n : Nat} (hn : okN n) : ex (callD fs73 scr) 100000 (.iff (.cmp .ne (.res (.call 7 (.cons (.var 2) (.cons (.cst PyData.none) (.cons (.cst PyData.none) .nil))))) (.tup (.cons (.cst (PyData.str ("action" : PySem.Str))) .nil))) (.cons (.ret (.cst (PyData.bool false))) .nil) .nil)
    (E (some (false, int n)) x3 x4 x5 x6 x7 x8 x9 x10) s = .ok (.nx (E (some (false, int n)) x3 x4 x5 x6 x7 x8 x9 x10)) s := by
  rcases hn with rfl | rfl | rfl
  · kernel_rfl
  · kernel_rfl
  · kernel_rfl
end
theorem ne_state : opCmp .ne (tup [.str (resName 2)]) (tup [.str "state"]) = some false := by decide +kernel
theorem ne_sd (x : BP.St) : opCmp .ne (.dat (sd x)) (.dat (sd x)) = some false := by
  show (opEq _ _).map (!·) = _
  rw [eq_sd]
  simp
/-- what holds between the turns -/
def J (n : Nat) (env : BK.Env) : Prop := ∃ x3 x4 x5 x6 x7 x8 x9 x10, env = E (some (false, int n)) x3 x4 x5 x6 x7 x8 x9 x10 ∧ Fr x3
theorem plain : ∀ scr : List Int, scr.length ≤ 63 → ∃ s', exs (callD fs73 scr) 100000 c_law.body (lawEnv n_law.length) ⟨0, []⟩ = .ok (.rt (bl true)) s' := by
  intro scr hl
  refine xs_forE (fun i env s => (∃ x2 x3 x4 x5 x6 x7 x8 x9 x10, env = E x2 x3 x4 x5 x6 x7 x8 x9 x10 ∧ Fr x3) ∧ TwOk scr s) (i_seq (x := tup [.int 1, .int 2, .int 3]) (e_tup (es_cons e_cst (es_cons e_cst (es_cons e_cst es_nil))) rfl rfl) rfl) ⟨⟨none, none, none, none, none, none, none, none, none, rfl, .inl rfl⟩, ⟨fun p hp => (by cases hp), List.nodup_nil⟩⟩ ?_ ?_
  · rintro i x env s hx ⟨⟨x2, x3, x4, x5, x6, x7, x8, x9, x10, rfl, h3⟩, ht⟩
    obtain ⟨n, hn, rfl⟩ : ∃ n : Nat, okN n ∧ x = .int (n : Int) := by
      match i, hx with
      | 0, hx => cases hx; exact ⟨1, .inl rfl, rfl⟩
      | 1, hx => cases hx; exact ⟨2, .inr (.inl rfl), rfl⟩
      | 2, hx => cases hx; exact ⟨3, .inr (.inr rfl), rfl⟩
    suffices h : ∃ e2 s2, exs (callD fs73 scr) 100000 _ (E (some (false, int n)) x3 x4 x5 x6 x7 x8 x9 x10) s = .ok (.nx e2) s2 ∧ (J n e2 ∧ TwOk scr s2) by
      obtain ⟨e2, s2, h1, ⟨x3, x4, x5, x6, x7, x8, x9, x10, rfl, hf⟩, h3⟩ := h
      exact ⟨_, s2, b_ok (of_ok rfl) h1, ⟨_, _, _, _, _, _, _, _, _, rfl, hf⟩, h3⟩
    refine xs_nxN (t1 scr s hn) (xs_nxN (t2 scr s hn) (xs_nxN (t3 scr s hn h3) ?_))
    refine xs_forN (fun i env s => J n env ∧ TwOk scr s) (i_rng e_cst (by decide)) ⟨⟨_, _, _, _, _, _, _, _, rfl, h3⟩, ht⟩ ?_ fun env' s' h => ⟨env', s', rfl, h⟩
    rintro i y env s hy ⟨⟨x3, x4, x5, x6, x7, x8, x9, x10, rfl, h3⟩, ht⟩
    suffices h : ∃ e2 s2, exs (callD fs73 scr) 100000 _ (E (some (false, int n)) x3 x4 (some (false, .dat y)) x6 x7 x8 x9 x10) s = .ok (.nx e2) s2 ∧ (J n e2 ∧ TwOk scr s2) by
      obtain ⟨e2, s2, h1, h2⟩ := h
      exact ⟨e2, s2, b_ok (of_ok rfl) h1, h2⟩
    obtain ⟨a, s1, ha, ht1, ea⟩ := r_action scr s hl hn ht
    refine xs_nxN (x_asg (e_call (es_cons (e_var rfl) (es_cons (e_var rfl) (es_cons (e_var rfl) es_nil))) ea)) ?_
    have q4 : evs (callD fs73 scr) (.cons (.call 71 (.cons (.var 2) (.cons (.var 7) .nil))) (.cons (.cst (PyData.bool true)) .nil)) (E (some (false, int n)) x3 x4 (some (false, .dat y)) x6 (some (false, .dat (ad a))) x8 x9 x10) s1 = .ok [bl true, bl true] s1 :=
      es_cons (e_call (es_cons (e_var rfl) (es_cons (e_var rfl) es_nil)) (r_is_action scr s1 hn (r_action_of scr s1 hn ha))) (es_cons e_cst es_nil)
    refine xs_nxN (x_iffF (e_not (e_call q4 (is_t scr s1 true)) rfl) xs_nil) ?_
    refine xs_nxN (t5 scr s1 hn) (xs_nxN (t6 scr s1 hn (by rw [List.length_map]; exact ha.1)) ?_)
    refine xs_forN (fun i env s' => (∃ x8, env = E (some (false, int n)) x3 x4 (some (false, .dat y)) x6 (some (false, .dat (ad a))) x8 x9 x10) ∧ s' = s1) (i_seq (e_call (es_cons (e_var rfl) es_nil) (law_states_ok scr s1 hn)) rfl) ⟨⟨_, rfl⟩, rfl⟩ ?_ ?_
    · rintro j z env s' hz ⟨⟨x8, rfl⟩, rfl⟩
      rw [List.getElem?_map] at hz
      obtain ⟨st, hst, rfl⟩ := Option.map_eq_some_iff.mp hz
      have hs := mem_states.mp (List.mem_of_getElem? hst)
      refine ⟨_, s', b_ok (of_ok rfl) (xs_nx (x_iffF (e_cmp (e_call (es_cons (e_var rfl) (es_cons (e_var rfl) (es_cons (e_var rfl) es_nil))) (r_after scr s' hn ha hs)) (e_call (es_cons (e_var rfl) (es_cons (e_var rfl) es_nil)) (r_law_after scr s' hn ha.2 hs.1)) (ne_sd _)) xs_nil) (xs_nx (x_iffF (e_not (e_call (es_cons (e_call (es_cons (e_var rfl) (es_cons (e_var rfl) es_nil)) (r_is_state scr s' hn (r_state_of scr s' hn hs))) (es_cons e_cst es_nil)) (is_t scr s' true)) rfl) xs_nil) xs_nil)), ⟨_, rfl⟩, rfl⟩
    · rintro env s' ⟨⟨x8, rfl⟩, rfl⟩
      refine xs_nxN (t8 scr s' hn) (xs_nxN (t9 scr s' hn) ?_)
      refine xs_forN (fun i env s2 => (∃ x3, Fr x3 ∧ env = E (some (false, int n)) x3 x4 (some (false, .dat y)) x6 (some (false, .dat (ad a))) x8 (some (false, tup (zs n))) (some (false, lst ((badsL n).take 3)))) ∧ s2 = s') (i10 scr s' hn) ⟨⟨_, h3, rfl⟩, rfl⟩ ?_ ?_
      · rintro j z env s2 hz ⟨⟨x3, hf, rfl⟩, rfl⟩
        have hb := bad_1 scr s2 n hn z (List.mem_of_getElem? hz)
        refine ⟨_, s2, b_ok (of_ok rfl) (xs_nx (x_iffF (e_not (e_call (es_cons (e_call (es_cons (e_var rfl) (es_cons (e_var rfl) es_nil)) (r_is_state scr s2 hn hb)) (es_cons e_cst es_nil)) (is_t scr s2 false)) rfl) xs_nil) (xs_nx (x_iffF (e_cmp (e_resE (e_callX (es_cons (e_var rfl) (es_cons (e_var rfl) (es_cons (e_var rfl) es_nil))) (r_after_bad scr s2 hn ha hb)) (by decide)) (e_tup (es_cons e_cst es_nil) rfl rfl) ne_state) xs_nil) xs_nil)), ⟨_, .inr ⟨_, rfl⟩, rfl⟩, rfl⟩
      · rintro env s2 ⟨⟨x3, hf, rfl⟩, rfl⟩
        exact xs_nxN (t11 scr s2 hn) ⟨_, _, rfl, ⟨_, _, _, _, _, _, _, _, rfl, hf⟩, ht1⟩
  · rintro env s ⟨⟨x2, x3, x4, x5, x6, x7, x8, x9, x10, rfl, h3⟩, ht⟩
    exact ⟨s, by kernel_rfl⟩
end K01
set_option Elab.async false
set_option linter.all false
set_option maxRecDepth 100000
set_option maxHeartbeats 4000000

namespace K01
open PySem BK L2 BP
abbrev s_law_begun : Stmt := top 33
abbrev s_law_result : Stmt := top 28
theorem all_mk {l : PySem.W.OpenLaw} {w : World} {K : PySem.W.Frag} {h : Heap} {mg : Str → Option Value} {fa f_is_between f_check_items f_is_state_of f_is_operation f_is_action_of f_check_action f_applied f_after f_states_of f_all_states f_law_is f_law_after f_law_states f_law_draw f_law_action f_is_state f_is_action f_law_odd_operations f_law_begun f_law f_law_result : Addr} (X : K.In h) (Gn : h.Ns mainGlobals mg) (hfa : mg "law" = some (.ref fa))
    {co_law pt_law : Addr} {ge_law : Value} {gd_law : Option Addr} {gv_law : Array Value} {gs_law : Array (Option Value)}
    {od_is_between an_is_between od_check_items an_check_items od_is_state_of an_is_state_of od_is_operation an_is_operation od_is_action_of an_is_action_of od_check_action an_check_action od_applied an_applied od_after an_after od_states_of an_states_of od_all_states an_all_states od_law_is an_law_is od_law_after an_law_after od_law_states an_law_states od_law_draw an_law_draw od_law_action an_law_action od_is_state an_is_state od_is_action an_is_action od_law_odd_operations an_law_odd_operations od_law_begun an_law_begun od_law an_law od_law_result an_law_result : Option Addr} {sl_is_between sl_check_items sl_is_state_of sl_is_operation sl_is_action_of sl_check_action sl_applied sl_after sl_states_of sl_all_states sl_law_is sl_law_after sl_law_states sl_law_draw sl_law_action sl_is_state sl_is_action sl_law_odd_operations sl_law_begun sl_law sl_law_result : Array (Option Value)} {oc_is_between kV_is_between dc_is_between pm_is_between cd_is_between ct_is_between oc_check_items kV_check_items dc_check_items pm_check_items cd_check_items ct_check_items oc_is_state_of kV_is_state_of dc_is_state_of pm_is_state_of cd_is_state_of ct_is_state_of oc_is_operation kV_is_operation dc_is_operation pm_is_operation cd_is_operation ct_is_operation oc_is_action_of kV_is_action_of dc_is_action_of pm_is_action_of cd_is_action_of ct_is_action_of oc_check_action kV_check_action dc_check_action pm_check_action cd_check_action ct_check_action oc_applied kV_applied dc_applied pm_applied cd_applied ct_applied oc_after kV_after dc_after pm_after cd_after ct_after oc_states_of kV_states_of dc_states_of pm_states_of cd_states_of ct_states_of oc_all_states kV_all_states dc_all_states pm_all_states cd_all_states ct_all_states oc_law_is kV_law_is dc_law_is pm_law_is cd_law_is ct_law_is oc_law_after kV_law_after dc_law_after pm_law_after cd_law_after ct_law_after oc_law_states kV_law_states dc_law_states pm_law_states cd_law_states ct_law_states oc_law_draw kV_law_draw dc_law_draw pm_law_draw cd_law_draw ct_law_draw oc_law_action kV_law_action dc_law_action pm_law_action cd_law_action ct_law_action oc_is_state kV_is_state dc_is_state pm_is_state cd_is_state ct_is_state oc_is_action kV_is_action dc_is_action pm_is_action cd_is_action ct_is_action oc_law_odd_operations kV_law_odd_operations dc_law_odd_operations pm_law_odd_operations cd_law_odd_operations ct_law_odd_operations oc_law_begun kV_law_begun dc_law_begun pm_law_begun cd_law_begun ct_law_begun oc_law kV_law dc_law pm_law ct_law oc_law_result kV_law_result dc_law_result pm_law_result cd_law_result ct_law_result : Value}
    {e_InvalidItems e_InvalidAction e_InvalidState e_InvalidPlan e_InvalidGuards e_InvalidStart e_InvalidRun e_InvalidOrder e_InvalidOutcome e_InvalidText e_Ended e_NothingToUndo : Addr}
    {cs_ : Addr}
    (a_is_between : PySem.W.nsIn K mainGlobals "is_between" = some (some (.ref f_is_between))) (l_is_between : K.lookup f_is_between = some ⟨oc_is_between, od_is_between, .func (PySem.W.fnOf "is_between" "is_between" (defArgs s_is_between) (defBody s_is_between) (defScope s_is_between) .none kV_is_between dc_is_between pm_is_between an_is_between cd_is_between ct_is_between), sl_is_between⟩) (c_is_between : PySem.W.codeIn K cd_is_between "is_between" = true) (k_is_between : PySem.W.keepIn K (.ref f_is_between) = true)
    (a_check_items : PySem.W.nsIn K mainGlobals "check_items" = some (some (.ref f_check_items))) (l_check_items : K.lookup f_check_items = some ⟨oc_check_items, od_check_items, .func (PySem.W.fnOf "check_items" "check_items" (defArgs s_check_items) (defBody s_check_items) (defScope s_check_items) .none kV_check_items dc_check_items pm_check_items an_check_items cd_check_items ct_check_items), sl_check_items⟩) (c_check_items : PySem.W.codeIn K cd_check_items "check_items" = true) (k_check_items : PySem.W.keepIn K (.ref f_check_items) = true)
    (a_is_state_of : PySem.W.nsIn K mainGlobals "is_state_of" = some (some (.ref f_is_state_of))) (l_is_state_of : K.lookup f_is_state_of = some ⟨oc_is_state_of, od_is_state_of, .func (PySem.W.fnOf "is_state_of" "is_state_of" (defArgs s_is_state_of) (defBody s_is_state_of) (defScope s_is_state_of) .none kV_is_state_of dc_is_state_of pm_is_state_of an_is_state_of cd_is_state_of ct_is_state_of), sl_is_state_of⟩) (c_is_state_of : PySem.W.codeIn K cd_is_state_of "is_state_of" = true) (k_is_state_of : PySem.W.keepIn K (.ref f_is_state_of) = true)
    (a_is_operation : PySem.W.nsIn K mainGlobals "is_operation" = some (some (.ref f_is_operation))) (l_is_operation : K.lookup f_is_operation = some ⟨oc_is_operation, od_is_operation, .func (PySem.W.fnOf "is_operation" "is_operation" (defArgs s_is_operation) (defBody s_is_operation) (defScope s_is_operation) .none kV_is_operation dc_is_operation pm_is_operation an_is_operation cd_is_operation ct_is_operation), sl_is_operation⟩) (c_is_operation : PySem.W.codeIn K cd_is_operation "is_operation" = true) (k_is_operation : PySem.W.keepIn K (.ref f_is_operation) = true)
    (a_is_action_of : PySem.W.nsIn K mainGlobals "is_action_of" = some (some (.ref f_is_action_of))) (l_is_action_of : K.lookup f_is_action_of = some ⟨oc_is_action_of, od_is_action_of, .func (PySem.W.fnOf "is_action_of" "is_action_of" (defArgs s_is_action_of) (defBody s_is_action_of) (defScope s_is_action_of) .none kV_is_action_of dc_is_action_of pm_is_action_of an_is_action_of cd_is_action_of ct_is_action_of), sl_is_action_of⟩) (c_is_action_of : PySem.W.codeIn K cd_is_action_of "is_action_of" = true) (k_is_action_of : PySem.W.keepIn K (.ref f_is_action_of) = true)
    (a_check_action : PySem.W.nsIn K mainGlobals "check_action" = some (some (.ref f_check_action))) (l_check_action : K.lookup f_check_action = some ⟨oc_check_action, od_check_action, .func (PySem.W.fnOf "check_action" "check_action" (defArgs s_check_action) (defBody s_check_action) (defScope s_check_action) .none kV_check_action dc_check_action pm_check_action an_check_action cd_check_action ct_check_action), sl_check_action⟩) (c_check_action : PySem.W.codeIn K cd_check_action "check_action" = true) (k_check_action : PySem.W.keepIn K (.ref f_check_action) = true)
    (a_applied : PySem.W.nsIn K mainGlobals "applied" = some (some (.ref f_applied))) (l_applied : K.lookup f_applied = some ⟨oc_applied, od_applied, .func (PySem.W.fnOf "applied" "applied" (defArgs s_applied) (defBody s_applied) (defScope s_applied) .none kV_applied dc_applied pm_applied an_applied cd_applied ct_applied), sl_applied⟩) (c_applied : PySem.W.codeIn K cd_applied "applied" = true) (k_applied : PySem.W.keepIn K (.ref f_applied) = true)
    (a_after : PySem.W.nsIn K mainGlobals "after" = some (some (.ref f_after))) (l_after : K.lookup f_after = some ⟨oc_after, od_after, .func (PySem.W.fnOf "after" "after" (defArgs s_after) (defBody s_after) (defScope s_after) .none kV_after dc_after pm_after an_after cd_after ct_after), sl_after⟩) (c_after : PySem.W.codeIn K cd_after "after" = true) (k_after : PySem.W.keepIn K (.ref f_after) = true)
    (a_states_of : PySem.W.nsIn K mainGlobals "states_of" = some (some (.ref f_states_of))) (l_states_of : K.lookup f_states_of = some ⟨oc_states_of, od_states_of, .func (PySem.W.fnOf "states_of" "states_of" (defArgs s_states_of) (defBody s_states_of) (defScope s_states_of) .none kV_states_of dc_states_of pm_states_of an_states_of cd_states_of ct_states_of), sl_states_of⟩) (c_states_of : PySem.W.codeIn K cd_states_of "states_of" = true) (k_states_of : PySem.W.keepIn K (.ref f_states_of) = true)
    (a_all_states : PySem.W.nsIn K mainGlobals "all_states" = some (some (.ref f_all_states))) (l_all_states : K.lookup f_all_states = some ⟨oc_all_states, od_all_states, .func (PySem.W.fnOf "all_states" "all_states" (defArgs s_all_states) (defBody s_all_states) (defScope s_all_states) .none kV_all_states dc_all_states pm_all_states an_all_states cd_all_states ct_all_states), sl_all_states⟩) (c_all_states : PySem.W.codeIn K cd_all_states "all_states" = true) (k_all_states : PySem.W.keepIn K (.ref f_all_states) = true)
    (a_law_is : PySem.W.nsIn K mainGlobals "_law_is" = some (some (.ref f_law_is))) (l_law_is : K.lookup f_law_is = some ⟨oc_law_is, od_law_is, .func (PySem.W.fnOf "_law_is" "_law_is" (defArgs s_law_is) (defBody s_law_is) (defScope s_law_is) .none kV_law_is dc_law_is pm_law_is an_law_is cd_law_is ct_law_is), sl_law_is⟩) (c_law_is : PySem.W.codeIn K cd_law_is "_law_is" = true) (k_law_is : PySem.W.keepIn K (.ref f_law_is) = true)
    (a_law_after : PySem.W.nsIn K mainGlobals "_law_after" = some (some (.ref f_law_after))) (l_law_after : K.lookup f_law_after = some ⟨oc_law_after, od_law_after, .func (PySem.W.fnOf "_law_after" "_law_after" (defArgs s_law_after) (defBody s_law_after) (defScope s_law_after) .none kV_law_after dc_law_after pm_law_after an_law_after cd_law_after ct_law_after), sl_law_after⟩) (c_law_after : PySem.W.codeIn K cd_law_after "_law_after" = true) (k_law_after : PySem.W.keepIn K (.ref f_law_after) = true)
    (a_law_states : PySem.W.nsIn K mainGlobals "_law_states" = some (some (.ref f_law_states))) (l_law_states : K.lookup f_law_states = some ⟨oc_law_states, od_law_states, .func (PySem.W.fnOf "_law_states" "_law_states" (defArgs s_law_states) (defBody s_law_states) (defScope s_law_states) .none kV_law_states dc_law_states pm_law_states an_law_states cd_law_states ct_law_states), sl_law_states⟩) (c_law_states : PySem.W.codeIn K cd_law_states "_law_states" = true) (k_law_states : PySem.W.keepIn K (.ref f_law_states) = true)
    (a_law_draw : PySem.W.nsIn K mainGlobals "_law_draw" = some (some (.ref f_law_draw))) (l_law_draw : K.lookup f_law_draw = some ⟨oc_law_draw, od_law_draw, .func (PySem.W.fnOf "_law_draw" "_law_draw" (defArgs s_law_draw) (defBody s_law_draw) (defScope s_law_draw) .none kV_law_draw dc_law_draw pm_law_draw an_law_draw cd_law_draw ct_law_draw), sl_law_draw⟩) (c_law_draw : PySem.W.codeIn K cd_law_draw "_law_draw" = true) (k_law_draw : PySem.W.keepIn K (.ref f_law_draw) = true)
    (a_law_action : PySem.W.nsIn K mainGlobals "_law_action" = some (some (.ref f_law_action))) (l_law_action : K.lookup f_law_action = some ⟨oc_law_action, od_law_action, .func (PySem.W.fnOf "_law_action" "_law_action" (defArgs s_law_action) (defBody s_law_action) (defScope s_law_action) .none kV_law_action dc_law_action pm_law_action an_law_action cd_law_action ct_law_action), sl_law_action⟩) (c_law_action : PySem.W.codeIn K cd_law_action "_law_action" = true) (k_law_action : PySem.W.keepIn K (.ref f_law_action) = true)
    (a_is_state : PySem.W.nsIn K mainGlobals "is_state" = some (some (.ref f_is_state))) (l_is_state : K.lookup f_is_state = some ⟨oc_is_state, od_is_state, .func (PySem.W.fnOf "is_state" "is_state" (defArgs s_is_state) (defBody s_is_state) (defScope s_is_state) .none kV_is_state dc_is_state pm_is_state an_is_state cd_is_state ct_is_state), sl_is_state⟩) (c_is_state : PySem.W.codeIn K cd_is_state "is_state" = true) (k_is_state : PySem.W.keepIn K (.ref f_is_state) = true)
    (a_is_action : PySem.W.nsIn K mainGlobals "is_action" = some (some (.ref f_is_action))) (l_is_action : K.lookup f_is_action = some ⟨oc_is_action, od_is_action, .func (PySem.W.fnOf "is_action" "is_action" (defArgs s_is_action) (defBody s_is_action) (defScope s_is_action) .none kV_is_action dc_is_action pm_is_action an_is_action cd_is_action ct_is_action), sl_is_action⟩) (c_is_action : PySem.W.codeIn K cd_is_action "is_action" = true) (k_is_action : PySem.W.keepIn K (.ref f_is_action) = true)
    (a_law_odd_operations : PySem.W.nsIn K mainGlobals "_law_odd_operations" = some (some (.ref f_law_odd_operations))) (l_law_odd_operations : K.lookup f_law_odd_operations = some ⟨oc_law_odd_operations, od_law_odd_operations, .func (PySem.W.fnOf "_law_odd_operations" "_law_odd_operations" (defArgs s_law_odd_operations) (defBody s_law_odd_operations) (defScope s_law_odd_operations) .none kV_law_odd_operations dc_law_odd_operations pm_law_odd_operations an_law_odd_operations cd_law_odd_operations ct_law_odd_operations), sl_law_odd_operations⟩) (c_law_odd_operations : PySem.W.codeIn K cd_law_odd_operations "_law_odd_operations" = true) (k_law_odd_operations : PySem.W.keepIn K (.ref f_law_odd_operations) = true)
    (a_law_begun : PySem.W.nsIn K mainGlobals "_law_begun" = some (some (.ref f_law_begun))) (l_law_begun : K.lookup f_law_begun = some ⟨oc_law_begun, od_law_begun, .func (PySem.W.fnOf "_law_begun" "_law_begun" (defArgs s_law_begun) (defBody s_law_begun) (defScope s_law_begun) .none kV_law_begun dc_law_begun pm_law_begun an_law_begun cd_law_begun ct_law_begun), sl_law_begun⟩) (c_law_begun : PySem.W.codeIn K cd_law_begun "_law_begun" = true) (k_law_begun : PySem.W.keepIn K (.ref f_law_begun) = true)
    (a_law : PySem.W.nsIn K mainGlobals "law" = some (some (.ref f_law))) (l_law : K.lookup f_law = some ⟨oc_law, od_law, .func (PySem.W.fnOf "law" "law" (defArgs s_law) (defBody s_law) (defScope s_law) .none kV_law dc_law pm_law an_law (.ref co_law) ct_law), sl_law⟩) (c_law : PySem.W.codeIn K (.ref co_law) "law" = true) (k_law : PySem.W.keepIn K (.ref f_law) = true)
    (a_law_result : PySem.W.nsIn K mainGlobals "_law_result" = some (some (.ref f_law_result))) (l_law_result : K.lookup f_law_result = some ⟨oc_law_result, od_law_result, .func (PySem.W.fnOf "_law_result" "_law_result" (defArgs s_law_result) (defBody s_law_result) (defScope s_law_result) .none kV_law_result dc_law_result pm_law_result an_law_result cd_law_result ct_law_result), sl_law_result⟩) (c_law_result : PySem.W.codeIn K cd_law_result "_law_result" = true) (k_law_result : PySem.W.keepIn K (.ref f_law_result) = true)
    (a_InvalidItems : PySem.W.nsIn K mainGlobals "InvalidItems" = some (some (.ref e_InvalidItems)))
    (a_InvalidAction : PySem.W.nsIn K mainGlobals "InvalidAction" = some (some (.ref e_InvalidAction)))
    (a_InvalidState : PySem.W.nsIn K mainGlobals "InvalidState" = some (some (.ref e_InvalidState)))
    (a_InvalidPlan : PySem.W.nsIn K mainGlobals "InvalidPlan" = some (some (.ref e_InvalidPlan)))
    (a_InvalidGuards : PySem.W.nsIn K mainGlobals "InvalidGuards" = some (some (.ref e_InvalidGuards)))
    (a_InvalidStart : PySem.W.nsIn K mainGlobals "InvalidStart" = some (some (.ref e_InvalidStart)))
    (a_InvalidRun : PySem.W.nsIn K mainGlobals "InvalidRun" = some (some (.ref e_InvalidRun)))
    (a_InvalidOrder : PySem.W.nsIn K mainGlobals "InvalidOrder" = some (some (.ref e_InvalidOrder)))
    (a_InvalidOutcome : PySem.W.nsIn K mainGlobals "InvalidOutcome" = some (some (.ref e_InvalidOutcome)))
    (a_InvalidText : PySem.W.nsIn K mainGlobals "InvalidText" = some (some (.ref e_InvalidText)))
    (a_Ended : PySem.W.nsIn K mainGlobals "Ended" = some (some (.ref e_Ended)))
    (a_NothingToUndo : PySem.W.nsIn K mainGlobals "NothingToUndo" = some (some (.ref e_NothingToUndo)))
    (x_raise : exRaise K [e_InvalidItems, e_InvalidAction, e_InvalidState, e_InvalidPlan, e_InvalidGuards, e_InvalidStart, e_InvalidRun, e_InvalidOrder, e_InvalidOutcome, e_InvalidText, e_Ended, e_NothingToUndo] = true)
    (a_StepError : PySem.W.nsIn K mainGlobals "StepError" = some (some (.ref cs_))) (x_all : exAll K [e_InvalidItems, e_InvalidAction, e_InvalidState, e_InvalidPlan, e_InvalidGuards, e_InvalidStart, e_InvalidRun, e_InvalidOrder, e_InvalidOutcome, e_InvalidText, e_Ended, e_NothingToUndo] cs_ = true)
    (g_law : K.lookup co_law = some ⟨ge_law, gd_law, .fields gv_law, gs_law⟩) (t_law : gv_law[11]? = some (.ref pt_law)) (nt_law : K.lookup pt_law = none) (y_law : PySem.W.CodeHd h co_law pt_law ∧ h.get? pt_law = some { cls := .none, data := .fields #[] })
    (z_len : PySem.W.nsIn K mainGlobals "len" = some none)
    (z_all : PySem.W.nsIn K mainGlobals "all" = some none)
    (z_tuple : PySem.W.nsIn K mainGlobals "tuple" = some none)
    (z_list : PySem.W.nsIn K mainGlobals "list" = some none)
    (z_sorted : PySem.W.nsIn K mainGlobals "sorted" = some none)
    (z_min : PySem.W.nsIn K mainGlobals "min" = some none)
    (z_str : PySem.W.nsIn K mainGlobals "str" = some none)
    (z_int : PySem.W.nsIn K mainGlobals "int" = some none)
    (z_range : PySem.W.nsIn K mainGlobals "range" = some none)
    (z_zip : PySem.W.nsIn K mainGlobals "zip" = some none)
    (z_enumerate : PySem.W.nsIn K mainGlobals "enumerate" = some none)
    (z_isinstance : PySem.W.nsIn K mainGlobals "isinstance" = some none)
    (z_bool : PySem.W.nsIn K mainGlobals "bool" = some none)
    (z_set : PySem.W.nsIn K mainGlobals "set" = some none)
    (z_dict : PySem.W.nsIn K mainGlobals "dict" = some none)
    (z_ValueError : PySem.W.nsIn K mainGlobals "ValueError" = some none)
    (plain : ∀ scr : List Int, scr.length ≤ 63 → ∃ s', exs (callD fs73 scr) 100000 K01.c_law.body (lawEnv n_law.length) ⟨0, []⟩ = .ok (.rt (bl true)) s') :
    LamX.LawAtS l w K (L2.CX l.prog w) 76 63 "_law_script" mg fa h := by
  have e := hfa.symm.trans (PySem.W.mg_of X Gn a_law)
  cases e
  refine ⟨PySem.W.fnOf "law" "law" (defArgs s_law) (defBody s_law) (defScope s_law) .none kV_law dc_law pm_law an_law (.ref co_law) ct_law, [(co_law, pt_law)], spL K [(pt_law, ("law" : Str) ++ ".<locals>." ++ "<lambda>")], mem_cons_p (y_law.2) (fun p hp => (by cases hp)), mem_cons_p (nt_law) (fun p hp => (by cases hp)), mem_cons_p (y_law.1) (fun p hp => (by cases hp)), fun s v => .of_eq rfl, fun H a ns hl _ hT hs => ⟨a, ns, rfl, hs, hl, ?_, fun _ => rfl⟩, fun base _ _ TB => ?_⟩
  · exact mem_cons_p (hT (co_law, pt_law) (by simp)) (fun p hp => (by cases hp))
  have F_is_between := fun_mk (st := s_is_between) l_is_between c_is_between k_is_between
  have b_is_between := F_is_between.binds (ps := ["value", "low", "high"]) fun _ _ _ _ _ _ us hl => match us, hl with | [_, _, _], _ => rfl
  have w_is_between : Kws K (PySem.W.fnOf "is_between" "is_between" (defArgs s_is_between) (defBody s_is_between) (defScope s_is_between) .none kV_is_between dc_is_between pm_is_between an_is_between cd_is_between ct_is_between) ["value", "low", "high"] (kwOf KW 0) := Kws.nil
  have F_check_items := fun_mk (st := s_check_items) l_check_items c_check_items k_check_items
  have b_check_items := F_check_items.binds (ps := ["items"]) fun _ _ _ _ _ _ us hl => match us, hl with | [_], _ => rfl
  have w_check_items : Kws K (PySem.W.fnOf "check_items" "check_items" (defArgs s_check_items) (defBody s_check_items) (defScope s_check_items) .none kV_check_items dc_check_items pm_check_items an_check_items cd_check_items ct_check_items) ["items"] (kwOf KW 1) := Kws.nil
  have F_is_state_of := fun_mk (st := s_is_state_of) l_is_state_of c_is_state_of k_is_state_of
  have b_is_state_of := F_is_state_of.binds (ps := ["items", "value"]) fun _ _ _ _ _ _ us hl => match us, hl with | [_, _], _ => rfl
  have w_is_state_of : Kws K (PySem.W.fnOf "is_state_of" "is_state_of" (defArgs s_is_state_of) (defBody s_is_state_of) (defScope s_is_state_of) .none kV_is_state_of dc_is_state_of pm_is_state_of an_is_state_of cd_is_state_of ct_is_state_of) ["items", "value"] (kwOf KW 2) := Kws.nil
  have F_is_operation := fun_mk (st := s_is_operation) l_is_operation c_is_operation k_is_operation
  have b_is_operation := F_is_operation.binds (ps := ["items", "value"]) fun _ _ _ _ _ _ us hl => match us, hl with | [_, _], _ => rfl
  have w_is_operation : Kws K (PySem.W.fnOf "is_operation" "is_operation" (defArgs s_is_operation) (defBody s_is_operation) (defScope s_is_operation) .none kV_is_operation dc_is_operation pm_is_operation an_is_operation cd_is_operation ct_is_operation) ["items", "value"] (kwOf KW 3) := Kws.nil
  have F_is_action_of := fun_mk (st := s_is_action_of) l_is_action_of c_is_action_of k_is_action_of
  have b_is_action_of := F_is_action_of.binds (ps := ["items", "value"]) fun _ _ _ _ _ _ us hl => match us, hl with | [_, _], _ => rfl
  have w_is_action_of : Kws K (PySem.W.fnOf "is_action_of" "is_action_of" (defArgs s_is_action_of) (defBody s_is_action_of) (defScope s_is_action_of) .none kV_is_action_of dc_is_action_of pm_is_action_of an_is_action_of cd_is_action_of ct_is_action_of) ["items", "value"] (kwOf KW 4) := Kws.nil
  have F_check_action := fun_mk (st := s_check_action) l_check_action c_check_action k_check_action
  have b_check_action := F_check_action.binds (ps := ["items", "action"]) fun _ _ _ _ _ _ us hl => match us, hl with | [_, _], _ => rfl
  have w_check_action : Kws K (PySem.W.fnOf "check_action" "check_action" (defArgs s_check_action) (defBody s_check_action) (defScope s_check_action) .none kV_check_action dc_check_action pm_check_action an_check_action cd_check_action ct_check_action) ["items", "action"] (kwOf KW 5) := Kws.nil
  have F_applied := fun_mk (st := s_applied) l_applied c_applied k_applied
  have b_applied := F_applied.binds (ps := ["action", "state"]) fun _ _ _ _ _ _ us hl => match us, hl with | [_, _], _ => rfl
  have w_applied : Kws K (PySem.W.fnOf "applied" "applied" (defArgs s_applied) (defBody s_applied) (defScope s_applied) .none kV_applied dc_applied pm_applied an_applied cd_applied ct_applied) ["action", "state"] (kwOf KW 6) := Kws.nil
  have F_after := fun_mk (st := s_after) l_after c_after k_after
  have b_after := F_after.binds (ps := ["items", "action", "state"]) fun _ _ _ _ _ _ us hl => match us, hl with | [_, _, _], _ => rfl
  have w_after : Kws K (PySem.W.fnOf "after" "after" (defArgs s_after) (defBody s_after) (defScope s_after) .none kV_after dc_after pm_after an_after cd_after ct_after) ["items", "action", "state"] (kwOf KW 7) := (Kws.cons (kbinds_of (ps := ["items", "action", "state"]) (n := 1) (ks := [("action" : Str), ("state" : Str)]) (by decide) fun us ws h1 h2 => match us, h1, ws, h2 with | [_], _, [_, _], _ => rfl) Kws.nil)
  have F_states_of := fun_mk (st := s_states_of) l_states_of c_states_of k_states_of
  have b_states_of := F_states_of.binds (ps := ["items"]) fun _ _ _ _ _ _ us hl => match us, hl with | [_], _ => rfl
  have w_states_of : Kws K (PySem.W.fnOf "states_of" "states_of" (defArgs s_states_of) (defBody s_states_of) (defScope s_states_of) .none kV_states_of dc_states_of pm_states_of an_states_of cd_states_of ct_states_of) ["items"] (kwOf KW 8) := Kws.nil
  have F_all_states := fun_mk (st := s_all_states) l_all_states c_all_states k_all_states
  have b_all_states := F_all_states.binds (ps := ["items"]) fun _ _ _ _ _ _ us hl => match us, hl with | [_], _ => rfl
  have w_all_states : Kws K (PySem.W.fnOf "all_states" "all_states" (defArgs s_all_states) (defBody s_all_states) (defScope s_all_states) .none kV_all_states dc_all_states pm_all_states an_all_states cd_all_states ct_all_states) ["items"] (kwOf KW 9) := (Kws.cons (kbinds_of (ps := ["items"]) (n := 0) (ks := [("items" : Str)]) (by decide) fun us ws h1 h2 => match us, h1, ws, h2 with | [], _, [_], _ => rfl) Kws.nil)
  have F_law_is := fun_mk (st := s_law_is) l_law_is c_law_is k_law_is
  have b_law_is := F_law_is.binds (ps := ["_law_found", "_law_expected"]) fun _ _ _ _ _ _ us hl => match us, hl with | [_, _], _ => rfl
  have w_law_is : Kws K (PySem.W.fnOf "_law_is" "_law_is" (defArgs s_law_is) (defBody s_law_is) (defScope s_law_is) .none kV_law_is dc_law_is pm_law_is an_law_is cd_law_is ct_law_is) ["_law_found", "_law_expected"] (kwOf KW 57) := Kws.nil
  have F_law_after := fun_mk (st := s_law_after) l_law_after c_law_after k_law_after
  have b_law_after := F_law_after.binds (ps := ["_law_action_here", "_law_state_here"]) fun _ _ _ _ _ _ us hl => match us, hl with | [_, _], _ => rfl
  have w_law_after : Kws K (PySem.W.fnOf "_law_after" "_law_after" (defArgs s_law_after) (defBody s_law_after) (defScope s_law_after) .none kV_law_after dc_law_after pm_law_after an_law_after cd_law_after ct_law_after) ["_law_action_here", "_law_state_here"] (kwOf KW 58) := Kws.nil
  have F_law_states := fun_mk (st := s_law_states) l_law_states c_law_states k_law_states
  have b_law_states := F_law_states.binds (ps := ["_law_items_here"]) fun _ _ _ _ _ _ us hl => match us, hl with | [_], _ => rfl
  have w_law_states : Kws K (PySem.W.fnOf "_law_states" "_law_states" (defArgs s_law_states) (defBody s_law_states) (defScope s_law_states) .none kV_law_states dc_law_states pm_law_states an_law_states cd_law_states ct_law_states) ["_law_items_here"] (kwOf KW 59) := Kws.nil
  have F_law_draw := fun_mk (st := s_law_draw) l_law_draw c_law_draw k_law_draw
  have b_law_draw := F_law_draw.binds (ps := ["_law_script", "_law_town", "_law_many"]) fun _ _ _ _ _ _ us hl => match us, hl with | [_, _, _], _ => rfl
  have w_law_draw : Kws K (PySem.W.fnOf "_law_draw" "_law_draw" (defArgs s_law_draw) (defBody s_law_draw) (defScope s_law_draw) .none kV_law_draw dc_law_draw pm_law_draw an_law_draw cd_law_draw ct_law_draw) ["_law_script", "_law_town", "_law_many"] (kwOf KW 60) := Kws.nil
  have F_law_action := fun_mk (st := s_law_action) l_law_action c_law_action k_law_action
  have b_law_action := F_law_action.binds (ps := ["_law_script", "_law_town", "_law_items_here"]) fun _ _ _ _ _ _ us hl => match us, hl with | [_, _, _], _ => rfl
  have w_law_action : Kws K (PySem.W.fnOf "_law_action" "_law_action" (defArgs s_law_action) (defBody s_law_action) (defScope s_law_action) .none kV_law_action dc_law_action pm_law_action an_law_action cd_law_action ct_law_action) ["_law_script", "_law_town", "_law_items_here"] (kwOf KW 61) := Kws.nil
  have F_is_state := fun_mk (st := s_is_state) l_is_state c_is_state k_is_state
  have b_is_state := F_is_state.binds (ps := ["items", "value"]) fun _ _ _ _ _ _ us hl => match us, hl with | [_, _], _ => rfl
  have w_is_state : Kws K (PySem.W.fnOf "is_state" "is_state" (defArgs s_is_state) (defBody s_is_state) (defScope s_is_state) .none kV_is_state dc_is_state pm_is_state an_is_state cd_is_state ct_is_state) ["items", "value"] (kwOf KW 70) := (Kws.cons (kbinds_of (ps := ["items", "value"]) (n := 1) (ks := [("value" : Str)]) (by decide) fun us ws h1 h2 => match us, h1, ws, h2 with | [_], _, [_], _ => rfl) Kws.nil)
  have F_is_action := fun_mk (st := s_is_action) l_is_action c_is_action k_is_action
  have b_is_action := F_is_action.binds (ps := ["items", "value"]) fun _ _ _ _ _ _ us hl => match us, hl with | [_, _], _ => rfl
  have w_is_action : Kws K (PySem.W.fnOf "is_action" "is_action" (defArgs s_is_action) (defBody s_is_action) (defScope s_is_action) .none kV_is_action dc_is_action pm_is_action an_is_action cd_is_action ct_is_action) ["items", "value"] (kwOf KW 71) := (Kws.cons (kbinds_of (ps := ["items", "value"]) (n := 0) (ks := [("items" : Str), ("value" : Str)]) (by decide) fun us ws h1 h2 => match us, h1, ws, h2 with | [], _, [_, _], _ => rfl) Kws.nil)
  have F_law_odd_operations := fun_mk (st := s_law_odd_operations) l_law_odd_operations c_law_odd_operations k_law_odd_operations
  have b_law_odd_operations := F_law_odd_operations.binds (ps := ["_law_items_here"]) fun _ _ _ _ _ _ us hl => match us, hl with | [_], _ => rfl
  have w_law_odd_operations : Kws K (PySem.W.fnOf "_law_odd_operations" "_law_odd_operations" (defArgs s_law_odd_operations) (defBody s_law_odd_operations) (defScope s_law_odd_operations) .none kV_law_odd_operations dc_law_odd_operations pm_law_odd_operations an_law_odd_operations cd_law_odd_operations ct_law_odd_operations) ["_law_items_here"] (kwOf KW 72) := Kws.nil
  have F_law_begun := fun_mk (st := s_law_begun) l_law_begun c_law_begun k_law_begun
  have b_law_begun := F_law_begun.binds (ps := []) fun _ _ _ _ _ _ us hl => match us, hl with | [], _ => rfl
  have F_law := fun_mk (st := s_law) l_law c_law k_law
  have w_law : Kws K (PySem.W.fnOf "law" "law" (defArgs s_law) (defBody s_law) (defScope s_law) .none kV_law dc_law pm_law an_law (.ref co_law) ct_law) ["_law_script"] (kwOf KW 73) := Kws.nil
  have F_law_result := fun_mk (st := s_law_result) l_law_result c_law_result k_law_result
  have b_law_result := F_law_result.binds (ps := ["_law_call"]) fun _ _ _ _ _ _ us hl => match us, hl with | [_], _ => rfl
  let τ0 : Tn := ⟨0, 0, [(pt_law, ("law" : Str) ++ ".<locals>." ++ "<lambda>")], 0, fun i => ([f_is_between, f_check_items, f_is_state_of, f_is_operation, f_is_action_of, f_check_action, f_applied, f_after, f_states_of, f_all_states, 0, 0, 0, 0, 0, 0, 0, 0, 0, 0, 0, 0, 0, 0, 0, 0, 0, 0, 0, 0, 0, 0, 0, 0, 0, 0, 0, 0, 0, 0, 0, 0, 0, 0, 0, 0, 0, 0, 0, 0, 0, 0, 0, 0, 0, 0, 0, f_law_is, f_law_after, f_law_states, f_law_draw, f_law_action, 0, 0, 0, 0, 0, 0, 0, 0, f_is_state, f_is_action, f_law_odd_operations] : List Addr).getD i 0, fun i => .ref (([e_InvalidItems, e_InvalidAction, e_InvalidState, e_InvalidPlan, e_InvalidGuards, e_InvalidStart, e_InvalidRun, e_InvalidOrder, e_InvalidOutcome, e_InvalidText, e_Ended, e_NothingToUndo] : List Addr).getD i 0), [], false, K⟩
  have G : Gx l.prog w K mg base τ0 CN EX := ⟨fun x hx => ?_, fun x d h => ?_, fun c x hc hx => ?_⟩
  · have R : ResG K mg τ0 := resG_of F_law_result b_law_result ⟨rfl, rfl, rfl, by decide +kernel, rfl, by decide +kernel, by decide +kernel⟩ (by decide +kernel) (PySem.W.mg_of X Gn a_law_result) k_law_result (PySem.W.mg_of X Gn a_StepError) (PySem.W.mg_none_of X Gn z_ValueError) (PySem.W.mg_none_of X Gn z_isinstance) (PySem.W.mg_none_of X Gn z_len) [e_InvalidItems, e_InvalidAction, e_InvalidState, e_InvalidPlan, e_InvalidGuards, e_InvalidStart, e_InvalidRun, e_InvalidOrder, e_InvalidOutcome, e_InvalidText, e_Ended, e_NothingToUndo] rfl (fun i hi => rfl) (nm_cons (PySem.W.mg_of X Gn a_InvalidItems) <| nm_cons (PySem.W.mg_of X Gn a_InvalidAction) <| nm_cons (PySem.W.mg_of X Gn a_InvalidState) <| nm_cons (PySem.W.mg_of X Gn a_InvalidPlan) <| nm_cons (PySem.W.mg_of X Gn a_InvalidGuards) <| nm_cons (PySem.W.mg_of X Gn a_InvalidStart) <| nm_cons (PySem.W.mg_of X Gn a_InvalidRun) <| nm_cons (PySem.W.mg_of X Gn a_InvalidOrder) <| nm_cons (PySem.W.mg_of X Gn a_InvalidOutcome) <| nm_cons (PySem.W.mg_of X Gn a_InvalidText) <| nm_cons (PySem.W.mg_of X Gn a_Ended) <| nm_cons (PySem.W.mg_of X Gn a_NothingToUndo) <| nm_nil) x_all
    have L_law : LamT mg base (PySem.W.fnOf "law" "law" (defArgs s_law) (defBody s_law) (defScope s_law) .none kV_law dc_law pm_law an_law (.ref co_law) ct_law) "law" τ0.tabs := ⟨⟨co_law, pt_law, rfl, TB (co_law, pt_law) (by simp), by simp [τ0], mem_cons_p (P := fun p : Addr × Str => p.1 = pt_law → p.2 = ("law" : Str) ++ ".<locals>." ++ "<lambda>") (fun _ => rfl) (fun p hp => (by cases hp))⟩⟩
    have T0 : Tab l.prog w K mg base (L2.CX l.prog w) 0 τ0 KW nms0 fs0 := Tab.nil
    have T1 : Tab l.prog w K mg base (L2.CX l.prog w) 1 τ0 KW nms1 fs1 := Tab.snoc (T0.up (by omega)) rfl (by rw [BP.u_is_between]; exact ⟨⟨_, _, fn_ok F_is_between sc_is_between G T0 rfl rfl K01.k_is_between, b_is_between, w_is_between⟩, PySem.W.mg_of X Gn a_is_between, k_is_between⟩)
    have T2 : Tab l.prog w K mg base (L2.CX l.prog w) 2 τ0 KW nms2 fs2 := Tab.snoc (T1.up (by omega)) rfl (by rw [BP.u_check_items]; exact ⟨⟨_, _, fn_ok F_check_items sc_check_items G T1 rfl rfl K01.k_check_items, b_check_items, w_check_items⟩, PySem.W.mg_of X Gn a_check_items, k_check_items⟩)
    have T3 : Tab l.prog w K mg base (L2.CX l.prog w) 3 τ0 KW nms3 fs3 := Tab.snoc (T2.up (by omega)) rfl (by rw [BP.u_is_state_of]; exact ⟨⟨_, _, fn_ok F_is_state_of sc_is_state_of G T2 rfl rfl K01.k_is_state_of, b_is_state_of, w_is_state_of⟩, PySem.W.mg_of X Gn a_is_state_of, k_is_state_of⟩)
    have T4 : Tab l.prog w K mg base (L2.CX l.prog w) 4 τ0 KW nms4 fs4 := Tab.snoc (T3.up (by omega)) rfl (by rw [BP.u_is_operation]; exact ⟨⟨_, _, fn_ok F_is_operation sc_is_operation G T3 rfl rfl K01.k_is_operation, b_is_operation, w_is_operation⟩, PySem.W.mg_of X Gn a_is_operation, k_is_operation⟩)
    have T5 : Tab l.prog w K mg base (L2.CX l.prog w) 5 τ0 KW nms5 fs5 := Tab.snoc (T4.up (by omega)) rfl (by rw [BP.u_is_action_of]; exact ⟨⟨_, _, fn_ok F_is_action_of sc_is_action_of G T4 rfl rfl K01.k_is_action_of, b_is_action_of, w_is_action_of⟩, PySem.W.mg_of X Gn a_is_action_of, k_is_action_of⟩)
    have T6 : Tab l.prog w K mg base (L2.CX l.prog w) 6 τ0 KW nms6 fs6 := Tab.snoc (T5.up (by omega)) rfl (by rw [BP.u_check_action]; exact ⟨⟨_, _, fn_ok F_check_action sc_check_action G T5 rfl rfl K01.k_check_action, b_check_action, w_check_action⟩, PySem.W.mg_of X Gn a_check_action, k_check_action⟩)
    have T7 : Tab l.prog w K mg base (L2.CX l.prog w) 7 τ0 KW nms7 fs7 := Tab.snoc (T6.up (by omega)) rfl (by rw [BP.u_applied]; exact ⟨⟨_, _, fn_ok F_applied sc_applied G T6 rfl rfl K01.k_applied, b_applied, w_applied⟩, PySem.W.mg_of X Gn a_applied, k_applied⟩)
    have T8 : Tab l.prog w K mg base (L2.CX l.prog w) 8 τ0 KW nms8 fs8 := Tab.snoc (T7.up (by omega)) rfl (by rw [BP.u_after]; exact ⟨⟨_, _, fn_ok F_after sc_after G T7 rfl rfl K01.k_after, b_after, w_after⟩, PySem.W.mg_of X Gn a_after, k_after⟩)
    have T9 : Tab l.prog w K mg base (L2.CX l.prog w) 9 τ0 KW nms9 fs9 := Tab.snoc (T8.up (by omega)) rfl (by rw [BP.u_states_of]; exact ⟨⟨_, _, fn_ok F_states_of sc_states_of G T8 rfl rfl K01.k_states_of, b_states_of, w_states_of⟩, PySem.W.mg_of X Gn a_states_of, k_states_of⟩)
    have T10 : Tab l.prog w K mg base (L2.CX l.prog w) 10 τ0 KW nms10 fs10 := Tab.snoc (T9.up (by omega)) rfl (by rw [BP.u_all_states]; exact ⟨⟨_, _, fn_ok F_all_states sc_all_states G T9 rfl rfl K01.k_all_states, b_all_states, w_all_states⟩, PySem.W.mg_of X Gn a_all_states, k_all_states⟩)
    have T11 : Tab l.prog w K mg base (L2.CX l.prog w) 11 τ0 KW nms11 fs11 := Tab.skip BP.f_first_unlike (T10.up (by omega)) rfl
    have T12 : Tab l.prog w K mg base (L2.CX l.prog w) 12 τ0 KW nms12 fs12 := Tab.skip BP.f_repeat_state (T11.up (by omega)) rfl
    have T13 : Tab l.prog w K mg base (L2.CX l.prog w) 13 τ0 KW nms13 fs13 := Tab.skip BP.f_exchange_state (T12.up (by omega)) rfl
    have T14 : Tab l.prog w K mg base (L2.CX l.prog w) 14 τ0 KW nms14 fs14 := Tab.skip BP.f_back_state (T13.up (by omega)) rfl
    have T15 : Tab l.prog w K mg base (L2.CX l.prog w) 15 τ0 KW nms15 fs15 := Tab.skip BP.f_loses_nothing (T14.up (by omega)) rfl
    have T16 : Tab l.prog w K mg base (L2.CX l.prog w) 16 τ0 KW nms16 fs16 := Tab.skip BP.f_is_reversible (T15.up (by omega)) rfl
    have T17 : Tab l.prog w K mg base (L2.CX l.prog w) 17 τ0 KW nms17 fs17 := Tab.skip BP.f_operations_of (T16.up (by omega)) rfl
    have T18 : Tab l.prog w K mg base (L2.CX l.prog w) 18 τ0 KW nms18 fs18 := Tab.skip BP.f_way_back (T17.up (by omega)) rfl
    have T19 : Tab l.prog w K mg base (L2.CX l.prog w) 19 τ0 KW nms19 fs19 := Tab.skip BP.f_is_ascending (T18.up (by omega)) rfl
    have T20 : Tab l.prog w K mg base (L2.CX l.prog w) 20 τ0 KW nms20 fs20 := Tab.skip BP.f_is_step (T19.up (by omega)) rfl
    have T21 : Tab l.prog w K mg base (L2.CX l.prog w) 21 τ0 KW nms21 fs21 := Tab.skip BP.f_is_plan (T20.up (by omega)) rfl
    have T22 : Tab l.prog w K mg base (L2.CX l.prog w) 22 τ0 KW nms22 fs22 := Tab.skip BP.f_check_plan (T21.up (by omega)) rfl
    have T23 : Tab l.prog w K mg base (L2.CX l.prog w) 23 τ0 KW nms23 fs23 := Tab.skip BP.f_calls_of (T22.up (by omega)) rfl
    have T24 : Tab l.prog w K mg base (L2.CX l.prog w) 24 τ0 KW nms24 fs24 := Tab.skip BP.f_is_call (T23.up (by omega)) rfl
    have T25 : Tab l.prog w K mg base (L2.CX l.prog w) 25 τ0 KW nms25 fs25 := Tab.skip BP.f_check_guards (T24.up (by omega)) rfl
    have T26 : Tab l.prog w K mg base (L2.CX l.prog w) 26 τ0 KW nms26 fs26 := Tab.skip BP.f_check_start (T25.up (by omega)) rfl
    have T27 : Tab l.prog w K mg base (L2.CX l.prog w) 27 τ0 KW nms27 fs27 := Tab.skip BP.f_all_guards (T26.up (by omega)) rfl
    have T28 : Tab l.prog w K mg base (L2.CX l.prog w) 28 τ0 KW nms28 fs28 := Tab.skip BP.f_goal_of (T27.up (by omega)) rfl
    have T29 : Tab l.prog w K mg base (L2.CX l.prog w) 29 τ0 KW nms29 fs29 := Tab.skip BP.f_goal (T28.up (by omega)) rfl
    have T30 : Tab l.prog w K mg base (L2.CX l.prog w) 30 τ0 KW nms30 fs30 := Tab.skip BP.f_outcomes_of (T29.up (by omega)) rfl
    have T31 : Tab l.prog w K mg base (L2.CX l.prog w) 31 τ0 KW nms31 fs31 := Tab.skip BP.f_taking_back (T30.up (by omega)) rfl
    have T32 : Tab l.prog w K mg base (L2.CX l.prog w) 32 τ0 KW nms32 fs32 := Tab.skip BP.f_next_of (T31.up (by omega)) rfl
    have T33 : Tab l.prog w K mg base (L2.CX l.prog w) 33 τ0 KW nms33 fs33 := Tab.skip BP.f_has_effect (T32.up (by omega)) rfl
    have T34 : Tab l.prog w K mg base (L2.CX l.prog w) 34 τ0 KW nms34 fs34 := Tab.skip BP.f_called (T33.up (by omega)) rfl
    have T35 : Tab l.prog w K mg base (L2.CX l.prog w) 35 τ0 KW nms35 fs35 := Tab.skip BP.f_moved (T34.up (by omega)) rfl
    have T36 : Tab l.prog w K mg base (L2.CX l.prog w) 36 τ0 KW nms36 fs36 := Tab.skip BP.f_is_good_end (T35.up (by omega)) rfl
    have T37 : Tab l.prog w K mg base (L2.CX l.prog w) 37 τ0 KW nms37 fs37 := Tab.skip BP.f_found_ends (T36.up (by omega)) rfl
    have T38 : Tab l.prog w K mg base (L2.CX l.prog w) 38 τ0 KW nms38 fs38 := Tab.skip BP.f_are_good (T37.up (by omega)) rfl
    have T39 : Tab l.prog w K mg base (L2.CX l.prog w) 39 τ0 KW nms39 fs39 := Tab.skip BP.f_ends_clean (T38.up (by omega)) rfl
    have T40 : Tab l.prog w K mg base (L2.CX l.prog w) 40 τ0 KW nms40 fs40 := Tab.skip BP.f_bad_starts (T39.up (by omega)) rfl
    have T41 : Tab l.prog w K mg base (L2.CX l.prog w) 41 τ0 KW nms41 fs41 := Tab.skip BP.f_is_event (T40.up (by omega)) rfl
    have T42 : Tab l.prog w K mg base (L2.CX l.prog w) 42 τ0 KW nms42 fs42 := Tab.skip BP.f_followed (T41.up (by omega)) rfl
    have T43 : Tab l.prog w K mg base (L2.CX l.prog w) 43 τ0 KW nms43 fs43 := Tab.skip BP.f_is_run (T42.up (by omega)) rfl
    have T44 : Tab l.prog w K mg base (L2.CX l.prog w) 44 τ0 KW nms44 fs44 := Tab.skip BP.f_run_end (T43.up (by omega)) rfl
    have T45 : Tab l.prog w K mg base (L2.CX l.prog w) 45 τ0 KW nms45 fs45 := Tab.skip BP.f_bad_run (T44.up (by omega)) rfl
    have T46 : Tab l.prog w K mg base (L2.CX l.prog w) 46 τ0 KW nms46 fs46 := Tab.skip BP.f_ends (T45.up (by omega)) rfl
    have T47 : Tab l.prog w K mg base (L2.CX l.prog w) 47 τ0 KW nms47 fs47 := Tab.skip BP.f_guards_in (T46.up (by omega)) rfl
    have T48 : Tab l.prog w K mg base (L2.CX l.prog w) 48 τ0 KW nms48 fs48 := Tab.skip BP.f_fewest_guards (T47.up (by omega)) rfl
    have T49 : Tab l.prog w K mg base (L2.CX l.prog w) 49 τ0 KW nms49 fs49 := Tab.skip BP.f_guards_for_all (T48.up (by omega)) rfl
    have T50 : Tab l.prog w K mg base (L2.CX l.prog w) 50 τ0 KW nms50 fs50 := Tab.skip BP.f_can_get_stuck (T49.up (by omega)) rfl
    have T51 : Tab l.prog w K mg base (L2.CX l.prog w) 51 τ0 KW nms51 fs51 := Tab.skip BP.f_in_order (T50.up (by omega)) rfl
    have T52 : Tab l.prog w K mg base (L2.CX l.prog w) 52 τ0 KW nms52 fs52 := Tab.skip BP.f_reordered (T51.up (by omega)) rfl
    have T53 : Tab l.prog w K mg base (L2.CX l.prog w) 53 τ0 KW nms53 fs53 := Tab.skip BP.f_orders_of (T52.up (by omega)) rfl
    have T54 : Tab l.prog w K mg base (L2.CX l.prog w) 54 τ0 KW nms54 fs54 := Tab.skip BP.f_same_goal (T53.up (by omega)) rfl
    have T55 : Tab l.prog w K mg base (L2.CX l.prog w) 55 τ0 KW nms55 fs55 := Tab.skip BP.f_goal_orders (T54.up (by omega)) rfl
    have T56 : Tab l.prog w K mg base (L2.CX l.prog w) 56 τ0 KW nms56 fs56 := Tab.skip BP.f_clean_orders (T55.up (by omega)) rfl
    have T57 : Tab l.prog w K mg base (L2.CX l.prog w) 57 τ0 KW nms57 fs57 := Tab.skip BP.f_is_settled (T56.up (by omega)) rfl
    have T58 : Tab l.prog w K mg base (L2.CX l.prog w) 58 τ0 KW nms58 fs58 := Tab.snoc (T57.up (by omega)) rfl (by rw [BP.u_law_is]; exact ⟨⟨_, _, fn_ok F_law_is sc_law_is G T57 rfl rfl K01.k_law_is, b_law_is, w_law_is⟩, PySem.W.mg_of X Gn a_law_is, k_law_is⟩)
    have T59 : Tab l.prog w K mg base (L2.CX l.prog w) 59 τ0 KW nms59 fs59 := Tab.snoc (T58.up (by omega)) rfl (by rw [BP.u_law_after]; exact ⟨⟨_, _, fn_ok F_law_after sc_law_after G T58 rfl rfl K01.k_law_after, b_law_after, w_law_after⟩, PySem.W.mg_of X Gn a_law_after, k_law_after⟩)
    have T60 : Tab l.prog w K mg base (L2.CX l.prog w) 60 τ0 KW nms60 fs60 := Tab.snoc (T59.up (by omega)) rfl (by rw [BP.u_law_states]; exact ⟨⟨_, _, fn_ok F_law_states sc_law_states G T59 rfl rfl K01.k_law_states, b_law_states, w_law_states⟩, PySem.W.mg_of X Gn a_law_states, k_law_states⟩)
    have T61 : Tab l.prog w K mg base (L2.CX l.prog w) 61 τ0 KW nms61 fs61 := Tab.snoc (T60.up (by omega)) rfl (by exact ⟨⟨_, _, (FnOk.lift (ok_draw F_law_draw (PySem.W.mg_none_of X Gn z_len))).mono (by omega), b_law_draw, w_law_draw⟩, PySem.W.mg_of X Gn a_law_draw, k_law_draw⟩)
    have T62 : Tab l.prog w K mg base (L2.CX l.prog w) 62 τ0 KW nms62 fs62 := Tab.snoc (T61.up (by omega)) rfl (by rw [BP.u_law_action]; exact ⟨⟨_, _, fn_ok F_law_action sc_law_action G T61 rfl rfl K01.k_law_action, b_law_action, w_law_action⟩, PySem.W.mg_of X Gn a_law_action, k_law_action⟩)
    have T63 : Tab l.prog w K mg base (L2.CX l.prog w) 63 τ0 KW nms63 fs63 := Tab.skip BP.f_law_plan (T62.up (by omega)) rfl
    have T64 : Tab l.prog w K mg base (L2.CX l.prog w) 64 τ0 KW nms64 fs64 := Tab.skip BP.f_law_calls (T63.up (by omega)) rfl
    have T65 : Tab l.prog w K mg base (L2.CX l.prog w) 65 τ0 KW nms65 fs65 := Tab.skip BP.f_law_guards (T64.up (by omega)) rfl
    have T66 : Tab l.prog w K mg base (L2.CX l.prog w) 66 τ0 KW nms66 fs66 := Tab.skip BP.f_law_start (T65.up (by omega)) rfl
    have T67 : Tab l.prog w K mg base (L2.CX l.prog w) 67 τ0 KW nms67 fs67 := Tab.skip BP.f_law_back_from (T66.up (by omega)) rfl
    have T68 : Tab l.prog w K mg base (L2.CX l.prog w) 68 τ0 KW nms68 fs68 := Tab.skip BP.f_law_moves (T67.up (by omega)) rfl
    have T69 : Tab l.prog w K mg base (L2.CX l.prog w) 69 τ0 KW nms69 fs69 := Tab.skip BP.f_law_ends (T68.up (by omega)) rfl
    have T70 : Tab l.prog w K mg base (L2.CX l.prog w) 70 τ0 KW nms70 fs70 := Tab.skip BP.f_law_order (T69.up (by omega)) rfl
    have T71 : Tab l.prog w K mg base (L2.CX l.prog w) 71 τ0 KW nms71 fs71 := Tab.snoc (T70.up (by omega)) rfl (by rw [K01.u_is_state]; exact ⟨⟨_, _, fn_ok F_is_state sc_is_state G T70 rfl rfl K01.k_is_state, b_is_state, w_is_state⟩, PySem.W.mg_of X Gn a_is_state, k_is_state⟩)
    have T72 : Tab l.prog w K mg base (L2.CX l.prog w) 72 τ0 KW nms72 fs72 := Tab.snoc (T71.up (by omega)) rfl (by rw [K01.u_is_action]; exact ⟨⟨_, _, fn_ok F_is_action sc_is_action G T71 rfl rfl K01.k_is_action, b_is_action, w_is_action⟩, PySem.W.mg_of X Gn a_is_action, k_is_action⟩)
    have T73 : Tab l.prog w K mg base (L2.CX l.prog w) 73 τ0 KW nms73 fs73 := Tab.snoc (T72.up (by omega)) rfl (by rw [K01.u_law_odd_operations]; exact ⟨⟨_, _, fn_ok F_law_odd_operations sc_law_odd_operations G T72 rfl rfl K01.k_law_odd_operations, b_law_odd_operations, w_law_odd_operations⟩, PySem.W.mg_of X Gn a_law_odd_operations, k_law_odd_operations⟩)
    exact law_okL F_law sc_law G T73 R L_law (begun_ok F_law_begun rfl ⟨rfl, rfl, rfl, by decide +kernel, rfl, by decide +kernel, by decide +kernel⟩) b_law_begun (PySem.W.mg_of X Gn a_law_begun) k_law_begun rfl rfl rfl rfl rfl K01.k_law plain
  · simp only [biNames, List.mem_cons, List.not_mem_nil, or_false] at hx
    rcases hx with rfl | rfl | rfl | rfl | rfl | rfl | rfl | rfl | rfl | rfl | rfl | rfl | rfl | rfl | rfl
    · exact PySem.W.mg_none_of X Gn z_len
    · exact PySem.W.mg_none_of X Gn z_all
    · exact PySem.W.mg_none_of X Gn z_tuple
    · exact PySem.W.mg_none_of X Gn z_list
    · exact PySem.W.mg_none_of X Gn z_sorted
    · exact PySem.W.mg_none_of X Gn z_min
    · exact PySem.W.mg_none_of X Gn z_str
    · exact PySem.W.mg_none_of X Gn z_int
    · exact PySem.W.mg_none_of X Gn z_range
    · exact PySem.W.mg_none_of X Gn z_zip
    · exact PySem.W.mg_none_of X Gn z_enumerate
    · exact PySem.W.mg_none_of X Gn z_isinstance
    · exact PySem.W.mg_none_of X Gn z_bool
    · exact PySem.W.mg_none_of X Gn z_set
    · exact PySem.W.mg_none_of X Gn z_dict
  · cases h
  · have hc := List.contains_iff_mem.mp hc
    simp only [List.mem_cons, List.not_mem_nil, or_false] at hc
    rcases hc with rfl | rfl | rfl
    · cases hx
      exact exB_of (PySem.W.mg_of X Gn a_InvalidItems) x_raise (by simp)
    · cases hx
      exact exB_of (PySem.W.mg_of X Gn a_InvalidAction) x_raise (by simp)
    · cases hx
      exact exB_of (PySem.W.mg_of X Gn a_InvalidState) x_raise (by simp)
end K01

open PySem PySem.W PyProof.Rows in
set_option maxRecDepth 100000 in
set_option maxHeartbeats 0 in
theorem PySem.Challenge.cw_backsteps_k01_not_actions_holds : PySem.Challenge.rw_backsteps_k01_not_actions.Holds := by
  w_on; o_law; k_head; (case hw => w_witness2)
  k_fill
  refine BK.walk_ofN (l := PySem.Challenge.rw_backsteps_k01_not_actions) (n := 63) (k := 76) (x := "_law_script") (CX := fun w => L2.CX PySem.Challenge.rw_backsteps_k01_not_actions.prog w) rfl (by decide) rfl ⟨rfl, by decide, by decide⟩ (fun w h Y => by first | exact PySem.W.kIn_of Y | exact PySem.W.km_in_of Y) ?F (fun _ _ _ _ _ h => BK.cx_never h)
  case F =>
    intro w mg fa h _ KX Gn hmg HT
    refine' K01.all_mk KX Gn hmg ?a_is_between ?l_is_between ?c_is_between ?k_is_between ?a_check_items ?l_check_items ?c_check_items ?k_check_items ?a_is_state_of ?l_is_state_of ?c_is_state_of ?k_is_state_of ?a_is_operation ?l_is_operation ?c_is_operation ?k_is_operation ?a_is_action_of ?l_is_action_of ?c_is_action_of ?k_is_action_of ?a_check_action ?l_check_action ?c_check_action ?k_check_action ?a_applied ?l_applied ?c_applied ?k_applied ?a_after ?l_after ?c_after ?k_after ?a_states_of ?l_states_of ?c_states_of ?k_states_of ?a_all_states ?l_all_states ?c_all_states ?k_all_states ?a_law_is ?l_law_is ?c_law_is ?k_law_is ?a_law_after ?l_law_after ?c_law_after ?k_law_after ?a_law_states ?l_law_states ?c_law_states ?k_law_states ?a_law_draw ?l_law_draw ?c_law_draw ?k_law_draw ?a_law_action ?l_law_action ?c_law_action ?k_law_action ?a_is_state ?l_is_state ?c_is_state ?k_is_state ?a_is_action ?l_is_action ?c_is_action ?k_is_action ?a_law_odd_operations ?l_law_odd_operations ?c_law_odd_operations ?k_law_odd_operations ?a_law_begun ?l_law_begun ?c_law_begun ?k_law_begun ?a_law ?l_law ?c_law ?k_law ?a_law_result ?l_law_result ?c_law_result ?k_law_result  ?a_InvalidItems ?a_InvalidAction ?a_InvalidState ?a_InvalidPlan ?a_InvalidGuards ?a_InvalidStart ?a_InvalidRun ?a_InvalidOrder ?a_InvalidOutcome ?a_InvalidText ?a_Ended ?a_NothingToUndo ?x_raise ?a_StepError ?x_all ?g_law ?t_law ?nt_law ?y_law  ?z_len ?z_all ?z_tuple ?z_list ?z_sorted ?z_min ?z_str ?z_int ?z_range ?z_zip ?z_enumerate ?z_isinstance ?z_bool ?z_set ?z_dict ?z_ValueError K01.plain
    (case a_is_between => k_is)
    (case l_is_between => k_is)
    (case c_is_between => k_is)
    (case k_is_between => k_is)
    (case a_check_items => k_is)
    (case l_check_items => k_is)
    (case c_check_items => k_is)
    (case k_check_items => k_is)
    (case a_is_state_of => k_is)
    (case l_is_state_of => k_is)
    (case c_is_state_of => k_is)
    (case k_is_state_of => k_is)
    (case a_is_operation => k_is)
    (case l_is_operation => k_is)
    (case c_is_operation => k_is)
    (case k_is_operation => k_is)
    (case a_is_action_of => k_is)
    (case l_is_action_of => k_is)
    (case c_is_action_of => k_is)
    (case k_is_action_of => k_is)
    (case a_check_action => k_is)
    (case l_check_action => k_is)
    (case c_check_action => k_is)
    (case k_check_action => k_is)
    (case a_applied => k_is)
    (case l_applied => k_is)
    (case c_applied => k_is)
    (case k_applied => k_is)
    (case a_after => k_is)
    (case l_after => k_is)
    (case c_after => k_is)
    (case k_after => k_is)
    (case a_states_of => k_is)
    (case l_states_of => k_is)
    (case c_states_of => k_is)
    (case k_states_of => k_is)
    (case a_all_states => k_is)
    (case l_all_states => k_is)
    (case c_all_states => k_is)
    (case k_all_states => k_is)
    (case a_law_is => k_is)
    (case l_law_is => k_is)
    (case c_law_is => k_is)
    (case k_law_is => k_is)
    (case a_law_after => k_is)
    (case l_law_after => k_is)
    (case c_law_after => k_is)
    (case k_law_after => k_is)
    (case a_law_states => k_is)
    (case l_law_states => k_is)
    (case c_law_states => k_is)
    (case k_law_states => k_is)
    (case a_law_draw => k_is)
    (case l_law_draw => k_is)
    (case c_law_draw => k_is)
    (case k_law_draw => k_is)
    (case a_law_action => k_is)
    (case l_law_action => k_is)
    (case c_law_action => k_is)
    (case k_law_action => k_is)
    (case a_is_state => k_is)
    (case l_is_state => k_is)
    (case c_is_state => k_is)
    (case k_is_state => k_is)
    (case a_is_action => k_is)
    (case l_is_action => k_is)
    (case c_is_action => k_is)
    (case k_is_action => k_is)
    (case a_law_odd_operations => k_is)
    (case l_law_odd_operations => k_is)
    (case c_law_odd_operations => k_is)
    (case k_law_odd_operations => k_is)
    (case a_law_begun => k_is)
    (case l_law_begun => k_is)
    (case c_law_begun => k_is)
    (case k_law_begun => k_is)
    (case a_law => k_is)
    (case l_law => k_is)
    (case c_law => k_is)
    (case k_law => k_is)
    (case a_law_result => k_is)
    (case l_law_result => k_is)
    (case c_law_result => k_is)
    (case k_law_result => k_is)
    (case a_InvalidItems => k_is)
    (case a_InvalidAction => k_is)
    (case a_InvalidState => k_is)
    (case a_InvalidPlan => k_is)
    (case a_InvalidGuards => k_is)
    (case a_InvalidStart => k_is)
    (case a_InvalidRun => k_is)
    (case a_InvalidOrder => k_is)
    (case a_InvalidOutcome => k_is)
    (case a_InvalidText => k_is)
    (case a_Ended => k_is)
    (case a_NothingToUndo => k_is)
    (case x_raise => kernel_rfl)
    (case a_StepError => k_is)
    (case x_all => kernel_rfl)
    (case g_law => k_is)
    (case t_law => with_unfolding_all exact rfl)
    (case nt_law => kernel_rfl)
    (case y_law => exact HT "law" _ _ (by kernel_rfl) (by kernel_rfl))
    (case z_len => k_is)
    (case z_all => k_is)
    (case z_tuple => k_is)
    (case z_list => k_is)
    (case z_sorted => k_is)
    (case z_min => k_is)
    (case z_str => k_is)
    (case z_int => k_is)
    (case z_range => k_is)
    (case z_zip => k_is)
    (case z_enumerate => k_is)
    (case z_isinstance => k_is)
    (case z_bool => k_is)
    (case z_set => k_is)
    (case z_dict => k_is)
    (case z_ValueError => k_is)
