import PyProof.Rows.All
import Wide.All
import OpenK.AllK
import Wide.FinOn
import HandS.ForMost
import HandS.TupAny
import HandS.IsInst
import HandS.AnyAll
import HandS.GenList
import HandS.EndTab
import HandS.Flow
import HandS.Zip
import KE.KDictPairs
import KE.GoesMore
import KE.GoesEnum
import HandS.Keys
import PyProof.TupleOfGen
import HandS.Set
import HandS.Strs
import HandS.Small
import HandS.Defaults
import HandS.Exc
import HandS.Codes
import HandS.Lambda
import HandS.HeadHook4
import HandS.HeadWalk
import PySem.Challenge.RW_toldcost_k06_data_that_hold_data
import HandS.Head0
import HandS.Head1
import HandS.Head2
import HandS.HeadEnd
import HandS.HeadHook1
import HandS.HeadHook2
set_option Elab.async false
set_option linter.all false
set_option maxRecDepth 100000
set_option maxHeartbeats 2000000
/-! Mi: a small core language with a plain evaluator. A: values, heap, evaluator -/
namespace Mi
open PySem PySem.Spec PyProof.Rows L2

abbrev Sg := List Nat
inductive PV where
  | non | bl (b : Bool) | int (i : Int) | str (s : Sg) | tup (xs : List PV) | ref (l : Nat)
  | lis (xs : List PV)
  deriving Inhabited
abbrev KeyP := Sum Int Sg
inductive AO where
  | lst (xs : List PV) | scr (xs : List PV) | dk (kvs : List (KeyP × PV)) | ins (c : Nat) (fs : List (Nat × PV))
abbrev AH := List AO
abbrev Res (α : Type) := Option (α × AH)
abbrev Env1 := List (Option PV)

/-- operators -/
inductive BOp where | add | sub | mul | mod | fdiv | pow
  deriving DecidableEq
inductive COp where | eq | ne | lt | le | gt | ge | is | isnot | in_ | notin
  deriving DecidableEq
/-- built-in callables -/
inductive Bi where
  | len | tuple | list | int | str | abs | max2 | min2 | sum | sorted | dict | set | bool
  | isInt | isBool | isStr | isTup
  deriving DecidableEq
/-- methods of built-in types -/
inductive Mt where | append | get | pop0 | extend | index | items | update | count | join
  deriving DecidableEq
/-- what eats a generator expression -/
inductive Gc where | tuple | all | any | sum | sorted | list | set | max | join
  deriving DecidableEq

/-- expressions, argument lists, what is walked -/
inductive E where
  | var (i : Nat)
  | non | bl (b : Bool) | int (i : Int) | str (s : Sg)
  | gv (g : Nat)
  | nil | cons (a r : E)
  | tup (a : E) | lst (a : E)
  | bin (o : BOp) (a b : E) | neg (a : E)
  | cmp (o : COp) (a b : E) | ch (o p : COp) (a b c : E)
  | and (a b : E) | or (a b : E) | not (a : E) | ite (c a b : E)
  | idx (a i : E) | sl (a lo hi : E)
  | call (f : Nat) (a : E) | bi (b : Bi) (a : E) | mt (m : Mt) (o a : E)
  | att (o : E) (f : Nat) | mk (c : Nat) (a : E) | meth (m : Nat) (o a : E)
  | range (a : E) | enum (a : E) | zip (a : E) | itr (a : E)
  | lc (own : List Nat) (t it c e : E)
  | lc2 (own : List Nat) (t it t2 it2 c e : E)
  | gen (k : Gc) (own : List Nat) (t it c e : E)
  | gen2 (k : Gc) (own : List Nat) (t it t2 it2 c e : E)
  | bad

/-- statements, blocks -/
inductive S where
  | nil | cons (a r : S)
  | pass | asg (t e : E) | aug (i : Nat) (o : BOp) (e : E) | augA (t : E) (f : Nat) (o : BOp) (e : E) | augI (t i : E) (o : BOp) (e : E)
  | expr (e : E) | ret (e : E) | retN
  | cond (c : E) (a b : S) | for_ (t it : E) (b : S) | while_ (c : E) (b : S) | brk | cont
  | bad

def SZ : Nat := 16777216
/-! ### primitives -/
def alloc (o : AO) (h : AH) : Res PV := some (.ref h.length, h ++ [o])
def cutP (xs : List α) (lo hi : Option Int) : List α := (xs.drop (HT.sIx xs.length 0 lo)).take (HT.sIx xs.length xs.length hi - HT.sIx xs.length 0 lo)
def atP (xs : List α) (i : Int) : Option α := (ixN xs.length i).bind fun j => xs[j]?
def small (i : Int) : Bool := decide (-(2 ^ 64) < i ∧ i < 2 ^ 64)

def pbin (o : BOp) (x y : PV) (h : AH) : Res PV :=
  match o, x, y with
  | .add, .int i, .int j => some (.int (i + j), h)
  | .sub, .int i, .int j => some (.int (i - j), h)
  | .mul, .int i, .int j => if small i || small j then some (.int (i * j), h) else none
  | .mod, .int i, .int j => if j == 0 then none else some (.int (Int.fmod i j), h)
  | .fdiv, .int i, .int j => if decide (j ≠ 0 ∧ j.natAbs < 1073741824) then some (.int (Int.fdiv i j), h) else none
  | .pow, .int i, .int j => if decide (0 ≤ j ∧ j ≤ 1000000 ∧ i.natAbs < 2 ^ 64) then some (.int (i ^ j.toNat), h) else none
  | .add, .str a, .str b => if a.length + b.length ≤ SZ then some (.str (a ++ b), h) else none
  | .add, .tup a, .tup b => if a.length + b.length ≤ SZ then some (.tup (a ++ b), h) else none
  | .add, .ref a, .ref b => match h[a]?, h[b]? with
    | some (.lst xs), some (.lst ys) => if xs.length + ys.length ≤ SZ then alloc (.lst (xs ++ ys)) h else none
    | _, _ => none
  | _, _, _ => none

def sgEq (a b : Sg) : Bool := decide (a = b)
def isFlat : PV → Bool
  | .non => true | .bl _ => true | .int _ => true | .str _ => true | _ => false
/-- == of scalars of one kind (or None, a text against others) -/
def scalEq : PV → PV → Option Bool
  | .non, .non => some true
  | .non, .int _ => some false | .int _, .non => some false | .non, .bl _ => some false | .bl _, .non => some false
  | .non, .str _ => some false | .str _, .non => some false
  | .int i, .int j => some (decide (i = j))
  | .bl a, .bl b => some (decide (a = b))
  | .str a, .str b => some (sgEq a b)
  | .int _, .str _ => some false | .str _, .int _ => some false | .bl _, .str _ => some false | .str _, .bl _ => some false
  | _, _ => none
/-- == of flat values -/
def flatEq : PV → PV → Bool
  | .non, .non => true
  | .bl a, .bl b => a == b
  | .bl a, .int b => (if a then 1 else 0) == b
  | .int a, .bl b => a == (if b then 1 else 0)
  | .int a, .int b => a == b
  | .str a, .str b => sgEq a b
  | _, _ => false
def inP (x : PV) (xs : List PV) : Bool := xs.any fun y => flatEq y x
/-- the items of a list or a tuple -/
def seqOf (x : PV) (h : AH) : Option (List PV) :=
  match x with
  | .tup xs => some xs
  | .lis xs => some xs
  | .ref l => match h[l]? with
    | some (.lst xs) => some xs
    | some (.scr xs) => some xs
    | _ => none
  | _ => none
def dictOf (x : PV) (h : AH) : Option (Nat × List (KeyP × PV)) :=
  match x with
  | .ref l => match h[l]? with
    | some (.dk kvs) => some (l, kvs)
    | _ => none
  | _ => none
def keyP : PV → Option KeyP
  | .int i => some (.inl i)
  | .str s => some (.inr s)
  | _ => none
def lookP (kvs : List (KeyP × PV)) (k : KeyP) : Option PV := (kvs.find? fun kv => decide (kv.1 = k)).map (·.2)
def putP (kvs : List (KeyP × PV)) (k : KeyP) (v : PV) : List (KeyP × PV) :=
  if (kvs.any fun kv => decide (kv.1 = k)) = true then kvs.map (fun kv => if kv.1 = k then (kv.1, v) else kv) else kvs ++ [(k, v)]

def pcmp (o : COp) (x y : PV) (h : AH) : Option Bool :=
  match o with
  | .eq => scalEq x y
  | .ne => (scalEq x y).map (!·)
  | .lt => match x, y with | .int i, .int j => some (decide (i < j)) | _, _ => none
  | .le => match x, y with | .int i, .int j => some (decide (i ≤ j)) | _, _ => none
  | .gt => match x, y with | .int i, .int j => some (decide (j < i)) | _, _ => none
  | .ge => match x, y with | .int i, .int j => some (decide (j ≤ i)) | _, _ => none
  | .is => match y with | .non => some (match x with | .non => true | _ => false) | _ => none
  | .isnot => match y with | .non => some (match x with | .non => false | _ => true) | _ => none
  | .in_ => match seqOf y h with
    | some ys => if isFlat x && ys.all isFlat then some (inP x ys) else none
    | none => none
  | .notin => match seqOf y h with
    | some ys => if isFlat x && ys.all isFlat then some (!inP x ys) else none
    | none => none
/-- truth -/
def truth (x : PV) (h : AH) : Option Bool :=
  match x with
  | .non => some false
  | .bl b => some b
  | .int i => some (i != 0)
  | .str s => if s.length ≤ SZ then some ((s.length : Int) != 0) else none
  | .tup xs => some (!xs.isEmpty)
  | .ref l => match h[l]? with
    | some (.lst xs) => some (!xs.isEmpty)
    | some (.scr xs) => some (!xs.isEmpty)
    | some (.dk kvs) => some (!kvs.isEmpty)
    | _ => none
  | .lis _ => none
def pidx (x i : PV) (h : AH) : Option PV :=
  match x, i with
  | .str s, .int i => if s.length ≤ SZ then (atP s i).map fun c => .str [c] else none
  | x, .int i => match seqOf x h with
    | some xs => atP xs i
    | none => none
  | _, _ => none
/-- an end of a slice: left out, or a number -/
def partQ : E → PV → Option (Option Int)
  | .non, _ => some none
  | _, .int i => some (some i)
  | _, _ => none
def psl (x : PV) (lo hi : Option Int) (h : AH) : Res PV :=
  match x with
  | .str s => if s.length ≤ SZ then some (.str (cutP s lo hi), h) else none
  | .tup xs => some (.tup (cutP xs lo hi), h)
  | .ref l => match h[l]? with
    | some (.lst xs) => alloc (.lst (cutP xs lo hi)) h
    | some (.scr xs) => alloc (.lst (cutP xs lo hi)) h
    | _ => none
  | _ => none
end Mi
set_option Elab.async false
set_option linter.all false
set_option maxRecDepth 100000
set_option maxHeartbeats 2000000
/-! Mi B: the evaluator -/
namespace Mi
open PySem PySem.Spec PyProof.Rows L2

/-- what a loop walks: items that stand, or a list as it stands at each turn (e: with its number) -/
inductive It1 where | fix (xs : List PV) | live (e : Bool) (l : Nat)
abbrev Step (β : Type) := PV → β → AH → Res (β × Bool)
def loopF (f : Step β) : List PV → β → AH → Res (β × Bool)
  | [], b, h => some ((b, false), h)
  | x :: xs, b, h => match f x b h with
    | some ((b', true), h') => some ((b', true), h')
    | some ((b', false), h') => loopF f xs b' h'
    | none => none
def loopV (f : Step β) (e : Bool) (l : Nat) : Nat → Nat → β → AH → Res (β × Bool)
  | 0, i, b, h => match seqOf (.ref l) h with
    | some ys => if ys.length ≤ i then some ((b, false), h) else none
    | none => none
  | m + 1, i, b, h => match seqOf (.ref l) h with
    | some ys => match ys[i]? with
      | some x => match f (if e then .tup [.int i, x] else x) b h with
        | some ((b', true), h') => some ((b', true), h')
        | some ((b', false), h') => loopV f e l m (i + 1) b' h'
        | none => none
      | none => none
    | none => none
def walk (f : Step β) (it : It1) (b : β) (h : AH) : Res (β × Bool) :=
  match it with
  | .fix xs => loopF f xs b h
  | .live e l => match seqOf (.ref l) h with
    | some xs => loopV f e l xs.length 0 b h
    | none => none

def wipeP (σ : Env1) : List Nat → Env1
  | [] => σ
  | v :: vs => (wipeP σ vs).set v none
def tgVars : E → List Nat
  | .var i => [i]
  | .tup a => tgVars a
  | .cons a r => tgVars a ++ tgVars r
  | _ => []
mutual
def bindP : E → PV → Env1 → Option Env1
  | .var i, v, σ => some (σ.set i (some v))
  | .tup a, .tup xs, σ => bindPs a xs σ
  | _, _, _ => none
def bindPs : E → List PV → Env1 → Option Env1
  | .nil, [], σ => some σ
  | .cons a r, x :: xs, σ => match bindP a x σ with
    | some σ' => bindPs r xs σ'
    | none => none
  | _, _, _ => none
end

/-- by signs, as texts are ordered -/
def sgLe : Sg → Sg → Bool
  | [], _ => true
  | _ :: _, [] => false
  | a :: x, b :: y => if a < b then true else if b < a then false else sgLe x y
def insSg (x : Sg) : List Sg → List Sg
  | [] => [x]
  | y :: r => if sgLe x y then x :: y :: r else y :: insSg x r
def sortSg (xs : List Sg) : List Sg := xs.foldr insSg []
def insI (x : Int) : List Int → List Int
  | [] => [x]
  | y :: r => if x ≤ y then x :: y :: r else y :: insI x r
def sortI (xs : List Int) : List Int := xs.foldr insI []
def allStr : List PV → Option (List Sg)
  | [] => some []
  | .str s :: r => (allStr r).map (s :: ·)
  | _ => none
def allInt : List PV → Option (List Int)
  | [] => some []
  | .int s :: r => (allInt r).map (s :: ·)
  | _ => none
def allBl : List PV → Option (List Bool)
  | [] => some []
  | .bl s :: r => (allBl r).map (s :: ·)
  | _ => none
def psort (xs : List PV) (h : AH) : Res PV :=
  if xs.length < 64 then
    match allStr xs with
    | some ss => alloc (.lst ((sortSg ss).map .str)) h
    | none => none
  else none
/-- a text of a number -/
def natSg (n : Nat) : Sg := (Nat.toDigits 10 n).map Char.toNat
def intSg (i : Int) : Sg := match i with | .ofNat n => natSg n | .negSucc n => 45 :: natSg (n + 1)
def pairsOf : List PV → Option (List (KeyP × PV))
  | [] => some []
  | .tup [k, v] :: r => match keyP k, pairsOf r with
    | some k, some r => some ((k, v) :: r)
    | _, _ => none
  | _ => none
def mergeP : List (KeyP × PV) → List (KeyP × PV) → List (KeyP × PV)
  | acc, [] => acc
  | acc, (k, v) :: r => mergeP (putP acc k v) r
def addSg (s : Sg) (xs : List Sg) : List Sg := if xs.any (sgEq s) then xs else xs ++ [s]
def dedup (xs : List Sg) : List Sg := xs.foldl (fun acc s => addSg s acc) []

/-- the texts, each once, as they first come -/
def onceG : List Sg → List Sg → List Sg
  | acc, [] => acc
  | acc, x :: r => onceG (if x ∈ acc then acc else acc ++ [x]) r
/-- sorted(set(..)) of texts -/
def sset (xs : List PV) (h : AH) : Res PV :=
  if xs.length < 64 then
    match allStr xs with
    | some ss => alloc (.lst ((sortSg (onceG [] ss)).map .str)) h
    | none => none
  else none
def pbi (b : Bi) (xs : List PV) (h : AH) : Res PV :=
  match b, xs with
  | .set, [.ref l] => match seqOf (.ref l) h with
    | some ys => sset ys h
    | none => none
  | .len, [.str s] => if s.length ≤ SZ then some (.int s.length, h) else none
  | .len, [x] => match seqOf x h with
    | some ys => some (.int ys.length, h)
    | none => match dictOf x h with
      | some (_, kvs) => some (.int kvs.length, h)
      | none => none
  | .tuple, [x] => (seqOf x h).map fun ys => (.tup ys, h)
  | .list, [x] => match seqOf x h with
    | some ys => alloc (.lst ys) h
    | none => none
  | .int, [.int i] => some (.int i, h)
  | .int, [.bl b] => some (.int (if b then 1 else 0), h)
  | .str, [.int i] => if i.natAbs.log2 < 1920 then some (.str (intSg i), h) else none
  | .sorted, [.ref l] => match seqOf (.ref l) h with
    | some ys => psort ys h
    | none => none
  | .dict, [.tup ys] => match pairsOf ys with
      | some kvs => alloc (.dk (mergeP [] kvs)) h
      | none => none
  | .isInt, [x] => match x with
    | .int _ => some (.bl true, h) | .bl _ => some (.bl true, h) | .ref _ => none | .lis _ => none | _ => some (.bl false, h)
  | .isBool, [x] => match x with
    | .bl _ => some (.bl true, h) | .ref _ => none | .lis _ => none | _ => some (.bl false, h)
  | .isStr, [x] => match x with
    | .str _ => some (.bl true, h) | .ref _ => none | .lis _ => none | _ => some (.bl false, h)
  | .isTup, [x] => match x with
    | .tup _ => some (.bl true, h) | .ref _ => none | .lis _ => none | _ => some (.bl false, h)
  | _, _ => none

def pmt (m : Mt) (o : PV) (xs : List PV) (h : AH) : Res PV :=
  match m, o, xs with
  | .append, .ref l, [v] => match h[l]? with
    | some (.lst ys) => if ys.length < SZ then some (.non, h.set l (.lst (ys ++ [v]))) else none
    | _ => none
  | .get, o, [k, v] => match dictOf o h, keyP k with
    | some (_, kvs), some k => some ((lookP kvs k).getD v, h)
    | _, _ => none
  | _, _, _ => none

/-- a method's receiver is of its type, ahead of the arguments -/
inductive MTy where | list | dict | str
def Mt.ty : Mt → MTy
  | .append => .list | .pop0 => .list | .extend => .list | .index => .list | .count => .list
  | .get => .dict | .items => .dict | .update => .dict
  | .join => .str
def okT (m : Mt) (x : PV) (h : AH) : Bool :=
  match x with
  | .str _ => match m.ty with | .str => true | _ => false
  | .ref l => match h[l]? with
    | some (.lst _) => match m.ty with | .list => true | _ => false
    | some (.dk _) => match m.ty with | .dict => true | _ => false
    | _ => false
  | _ => false
/-- o[i] = v -/
def pset (o i v : PV) (h : AH) : Option AH :=
  match o with
  | .ref l => match h[l]? with
    | some (.lst xs) => match i with
      | .int i => match ixN xs.length i with
        | some j => some (h.set l (.lst (xs.set j v)))
        | none => none
      | _ => none
    | some (.dk kvs) => match keyP i with
      | some k => if kvs.length < SZ then some (h.set l (.dk (putP kvs k v))) else none
      | none => none
    | _ => none
  | _ => none
def patt (o : PV) (f : Nat) (h : AH) : Option PV :=
  match o with
  | .ref l => match h[l]? with
    | some (.ins _ fs) => fs.lookup f
    | _ => none
  | _ => none

def putFP (f : Nat) (v : PV) : List (Nat × PV) → List (Nat × PV)
  | [] => [(f, v)]
  | (g, x) :: r => if g = f then (g, v) :: r else (g, x) :: putFP f v r
/-- what eats a generator: one item; the end -/
def eat (k : Gc) (acc : List PV) (v : PV) (h : AH) : Option (List PV × Bool) :=
  match k with
  | .all => match v with
    | .bl true => some ([], false)
    | .bl false => some ([.bl false], true)
    | _ => none
  | .any => match v with
    | .bl true => some ([.bl true], true)
    | .bl false => some ([], false)
    | _ => none
  | _ => if acc.length < SZ then some (acc ++ [v], false) else none
def eaten (k : Gc) (acc : List PV) (h : AH) : Res PV :=
  match k with
  | .all => some (.bl acc.isEmpty, h)
  | .any => some (.bl (!acc.isEmpty), h)
  | .tuple => some (.tup acc, h)
  | .list => alloc (.lst acc) h
  | .sorted => psort acc h
  | .sum => match allInt acc with
    | some ns => some (.int ns.sum, h)
    | none => none
  | _ => none

structure FunD where
  ar : Nat
  n : Nat
  body : S
structure Pg where
  funs : List FunD
  consts : List PV
  meth : List (Nat × Nat × Nat)
  init : List (Nat × Nat)
  wf : Nat
abbrev Cl := Nat → List PV → AH → Res PV

section
variable (P : Pg) (cl : Cl)
mutual
def evE : E → Env1 → AH → Res PV
  | .var i, σ, h => match σ[i]? with
    | some (some v) => some (v, h)
    | _ => none
  | .non, _, h => some (.non, h)
  | .bl b, _, h => some (.bl b, h)
  | .int i, _, h => some (.int i, h)
  | .str s, _, h => some (.str s, h)
  | .gv g, _, h => (P.consts[g]?).map fun v => (v, h)
  | .tup a, σ, h => match evL a σ h with
    | some (xs, h') => if xs.length ≤ SZ then some (.tup xs, h') else none
    | none => none
  | .lst a, σ, h => match evL a σ h with
    | some (xs, h') => if xs.length ≤ SZ then alloc (.lst xs) h' else none
    | none => none
  | .bin o a b, σ, h => match evE a σ h with
    | some (x, h1) => match evE b σ h1 with
      | some (y, h2) => pbin o x y h2
      | none => none
    | none => none
  | .neg a, σ, h => match evE a σ h with
    | some (.int i, h') => some (.int (-i), h')
    | _ => none
  | .cmp o a b, σ, h => match evE a σ h with
    | some (x, h1) => match evE b σ h1 with
      | some (y, h2) => (pcmp o x y h2).map fun r => (.bl r, h2)
      | none => none
    | none => none
  | .ch o p a b c, σ, h => match evE a σ h with
    | some (x, h1) => match evE b σ h1 with
      | some (y, h2) => match pcmp o x y h2 with
        | some true => match evE c σ h2 with
          | some (z, h3) => (pcmp p y z h3).map fun r => (.bl r, h3)
          | none => none
        | some false => some (.bl false, h2)
        | none => none
      | none => none
    | none => none
  | .and a b, σ, h => match evE a σ h with
    | some (x, h1) => match truth x h1 with
      | some true => evE b σ h1
      | some false => some (x, h1)
      | none => none
    | none => none
  | .or a b, σ, h => match evE a σ h with
    | some (x, h1) => match truth x h1 with
      | some true => some (x, h1)
      | some false => evE b σ h1
      | none => none
    | none => none
  | .not a, σ, h => match evE a σ h with
    | some (x, h1) => (truth x h1).map fun r => (.bl (!r), h1)
    | none => none
  | .ite c a b, σ, h => match evE c σ h with
    | some (x, h1) => match truth x h1 with
      | some true => evE a σ h1
      | some false => evE b σ h1
      | none => none
    | none => none
  | .idx a i, σ, h => match evE a σ h with
    | some (x, h1) => match evE i σ h1 with
      | some (y, h2) => (pidx x y h2).map fun v => (v, h2)
      | none => none
    | none => none
  | .sl a lo hi, σ, h => match evE a σ h with
    | some (x, h1) => match evE lo σ h1 with
      | some (y, h2) => match evE hi σ h2 with
        | some (z, h3) => match partQ lo y, partQ hi z with
          | some l, some u => psl x l u h3
          | _, _ => none
        | none => none
      | none => none
    | none => none
  | .call f a, σ, h => match evL a σ h with
    | some (xs, h') => cl f xs h'
    | none => none
  | .bi b a, σ, h => match evL a σ h with
    | some (xs, h') => pbi b xs h'
    | none => none
  | .mt m o a, σ, h => match evE o σ h with
    | some (x, h1) => if okT m x h1 then match evL a σ h1 with
        | some (xs, h2) => pmt m x xs h2
        | none => none
      else none
    | none => none
  | .att o f, σ, h => match evE o σ h with
    | some (x, h1) => (patt x f h1).map fun v => (v, h1)
    | none => none
  | .mk c a, σ, h => match evL a σ h with
    | some (xs, h1) => match P.init.lookup c with
      | some f => match cl f (.ref h1.length :: xs) (h1 ++ [.ins c []]) with
        | some (.non, h2) => some (.ref h1.length, h2)
        | _ => none
      | none => none
    | none => none
  | .meth m o a, σ, h => match evE o σ h with
    | some (.ref l, h1) => match evL a σ h1 with
      | some (xs, h2) => match h1[l]? with
        | some (.ins c _) => match (P.meth.find? fun q => q.1 == c && q.2.1 == m) with
          | some q => cl q.2.2 (.ref l :: xs) h2
          | none => none
        | _ => none
      | none => none
    | _ => none
  | .lc own t it c e, σ, h => match evI it σ h with
    | some (i, h1) => match walk (fun x acc h => match bindP t x (wipeP σ own) with
        | some σ1 => match evE c σ1 h with
          | some (b, h2) => match truth b h2 with
            | some true => match evE e σ1 h2 with
              | some (v, h3) => if acc.length < SZ then some ((acc ++ [v], false), h3) else none
              | none => none
            | some false => some ((acc, false), h2)
            | none => none
          | none => none
        | none => none) i ([] : List PV) h1 with
      | some ((acc, _), h2) => alloc (.lst acc) h2
      | none => none
    | none => none
  | .lc2 own t it t2 it2 c e, σ, h => match evI it σ h with
    | some (i, h1) => match walk (fun x acc h => match bindP t x (wipeP σ own) with
        | some σ0 => match evI it2 σ0 h with
          | some (i2, h1) => walk (fun x acc h => match bindP t2 x (wipeP σ0 (tgVars t2)) with
            | some σ1 => match evE c σ1 h with
              | some (b, h2) => match truth b h2 with
                | some true => match evE e σ1 h2 with
                  | some (v, h3) => if acc.length < SZ then some ((acc ++ [v], false), h3) else none
                  | none => none
                | some false => some ((acc, false), h2)
                | none => none
              | none => none
            | none => none) i2 acc h1
          | none => none
        | none => none) i ([] : List PV) h1 with
      | some ((acc, _), h2) => alloc (.lst acc) h2
      | none => none
    | none => none
  | .gen k own t it c e, σ, h => match evI it σ h with
    | some (i, h1) => match walk (fun x acc h => match bindP t x (wipeP σ own) with
        | some σ1 => match evE c σ1 h with
          | some (b, h2) => match truth b h2 with
            | some true => match evE e σ1 h2 with
              | some (v, h3) => (eat k acc v h3).map fun r => (r, h3)
              | none => none
            | some false => some ((acc, false), h2)
            | none => none
          | none => none
        | none => none) i ([] : List PV) h1 with
      | some ((acc, _), h2) => eaten k acc h2
      | none => none
    | none => none
  | .gen2 k own t it t2 it2 c e, σ, h => match evI it σ h with
    | some (i, h1) => match walk (fun x acc h => match bindP t x (wipeP σ own) with
        | some σ0 => match evI it2 σ0 h with
          | some (i2, h1) => walk (fun x acc h => match bindP t2 x (wipeP σ0 (tgVars t2)) with
            | some σ1 => match evE c σ1 h with
              | some (b, h2) => match truth b h2 with
                | some true => match evE e σ1 h2 with
                  | some (v, h3) => (eat k acc v h3).map fun r => (r, h3)
                  | none => none
                | some false => some ((acc, false), h2)
                | none => none
              | none => none
            | none => none) i2 acc h1
          | none => none
        | none => none) i ([] : List PV) h1 with
      | some ((acc, _), h2) => eaten k acc h2
      | none => none
    | none => none
  | _, _, _ => none
termination_by structural e => e
def evL : E → Env1 → AH → Res (List PV)
  | .nil, _, h => some ([], h)
  | .cons a r, σ, h => match evE a σ h with
    | some (x, h1) => match evL r σ h1 with
      | some (xs, h2) => some (x :: xs, h2)
      | none => none
    | none => none
  | _, _, _ => none
termination_by structural e => e
def evI : E → Env1 → AH → Res It1
  | .range a, σ, h => match evL a σ h with
    | some ([.int j], h') => if decide (-(2 ^ 62) ≤ j ∧ j < 2 ^ 62) then some (.fix ((List.range j.toNat).map fun (i : Nat) => .int i), h') else none
    | some ([.int i, .int j], h') => if decide (-(2 ^ 62) ≤ i ∧ i < 2 ^ 62 ∧ -(2 ^ 62) ≤ j ∧ j < 2 ^ 62) then some (.fix ((List.range (j - i).toNat).map fun (k : Nat) => .int (i + k)), h') else none
    | _ => none
  | .enum a, σ, h => match evE a σ h with
    | some (.tup xs, h') => some (.fix (xs.zipIdx.map fun p => .tup [.int (p.2 : Nat), p.1]), h')
    | some (.ref l, h') => match seqOf (.ref l) h' with
      | some _ => some (.live true l, h')
      | none => none
    | _ => none
  | .zip a, σ, h => match evL a σ h with
    | some ([.tup xs, .tup ys], h') => some (.fix ((xs.zip ys).map fun p => .tup [p.1, p.2]), h')
    | _ => none
  | .itr e, σ, h => match evE e σ h with
    | some (.tup xs, h') => some (.fix xs, h')
    | some (.str s, h') => some (.fix (s.map fun c => .str [c]), h')
    | some (.ref l, h') => match seqOf (.ref l) h' with
      | some _ => some (.live false l, h')
      | none => none
    | _ => none
  | _, _, _ => none
termination_by structural e => e
end
end

/-- what a statement comes to -/
inductive Fl where | nx | brk | ct | ret (v : PV)
def whileR (f : Env1 → AH → Res (Fl × Env1)) (c : Env1 → AH → Res Bool) : Nat → Env1 → AH → Res (Fl × Env1)
  | 0, _, _ => none
  | n + 1, σ, h => match c σ h with
    | some (true, h1) => match f σ h1 with
      | some ((.nx, σ'), h2) => whileR f c n σ' h2
      | some ((.ct, σ'), h2) => whileR f c n σ' h2
      | some ((.brk, σ'), h2) => some ((.nx, σ'), h2)
      | some ((.ret v, σ'), h2) => some ((.ret v, σ'), h2)
      | none => none
    | some (false, h1) => some ((.nx, σ), h1)
    | none => none
def tst (r : Res PV) : Res Bool := match r with
  | some (x, h) => (truth x h).map fun b => (b, h)
  | none => none
/-- op= -/
def paug (o : BOp) (x y : PV) (h : AH) : Res PV := match o, x, y with
  | .add, .int i, .int j => some (.int (i + j), h)
  | .sub, .int i, .int j => some (.int (i - j), h)
  | _, _, _ => none
def evS (P : Pg) (cl : Cl) : S → Env1 → AH → Res (Fl × Env1)
  | .nil, σ, h => some ((.nx, σ), h)
  | .cons a r, σ, h => match evS P cl a σ h with
    | some ((.nx, σ'), h') => evS P cl r σ' h'
    | q => q
  | .pass, σ, h => some ((.nx, σ), h)
  | .asg t e, σ, h => match evE P cl e σ h with
    | some (v, h1) => match t with
      | .idx o i => match evE P cl o σ h1 with
        | some (ov, h2) => match evE P cl i σ h2 with
          | some (iv, h3) => (pset ov iv v h3).map fun h4 => ((.nx, σ), h4)
          | none => none
        | none => none
      | .att o f => match evE P cl o σ h1 with
        | some (.ref l, h2) => match h2[l]? with
          | some (.ins c fs) => if fs.length < 1000 then some ((.nx, σ), h2.set l (.ins c (putFP f v fs))) else none
          | _ => none
        | _ => none
      | t => match bindP t v σ with
        | some σ' => some ((.nx, σ'), h1)
        | none => none
    | none => none
  | .aug i o e, σ, h => match σ[i]? with
    | some (some x) => match evE P cl e σ h with
      | some (y, h1) => match paug o x y h1 with
        | some (z, h2) => some ((.nx, σ.set i (some z)), h2)
        | none => none
      | none => none
    | _ => none
  | .expr e, σ, h => match evE P cl e σ h with
    | some (_, h1) => some ((.nx, σ), h1)
    | none => none
  | .ret e, σ, h => match evE P cl e σ h with
    | some (v, h1) => some ((.ret v, σ), h1)
    | none => none
  | .retN, σ, h => some ((.ret .non, σ), h)
  | .cond c a b, σ, h => match tst (evE P cl c σ h) with
    | some (true, h1) => evS P cl a σ h1
    | some (false, h1) => evS P cl b σ h1
    | none => none
  | .for_ t it b, σ, h => match evI P cl it σ h with
    | some (i, h1) => match walk (fun x (q : Fl × Env1) h => match bindP t x q.2 with
        | some σ1 => match evS P cl b σ1 h with
          | some ((.nx, σ2), h2) => some (((.nx, σ2), false), h2)
          | some ((.ct, σ2), h2) => some (((.nx, σ2), false), h2)
          | some ((.brk, σ2), h2) => some (((.nx, σ2), true), h2)
          | some ((.ret v, σ2), h2) => some (((.ret v, σ2), true), h2)
          | none => none
        | none => none) i (.nx, σ) h1 with
      | some ((q, _), h2) => some (q, h2)
      | none => none
    | none => none
  | .while_ c b, σ, h => whileR (fun σ h => evS P cl b σ h) (fun σ h => tst (evE P cl c σ h)) P.wf σ h
  | .brk, σ, h => some ((.brk, σ), h)
  | .cont, σ, h => some ((.ct, σ), h)
  | _, _, _ => none
termination_by structural s => s
def startP (d : FunD) (args : List PV) : Env1 := args.map some ++ List.replicate (d.n - args.length) none
def callF (P : Pg) : Nat → Cl
  | 0 => fun _ _ _ => none
  | n + 1 => fun f args h => match P.funs[f]? with
    | some d => if args.length = d.ar then
        match evS P (callF P n) d.body (startP d args) h with
        | some ((.ret v, _), h') => some (v, h')
        | some ((.nx, _), h') => some (.non, h')
        | _ => none
      else none
    | none => none
end Mi
set_option Elab.async false
set_option linter.all false
set_option maxRecDepth 100000
set_option maxHeartbeats 2000000
/-! Mi T: tuples as they are made: known to the object -/
namespace Mi
open PySem PySem.Spec PyProof.Rows L2

def TupP (K : PySem.W.Frag) (H : Hp) (a : Addr) (vs : List V) : Prop :=
  (∃ o, H a = some (.frz o (.tup vs)) ∧ o.dict = none) ∨
    ∃ (o : Obj) (its : Array Value) (n : Nat), K.lookup a = some o ∧ o.cls = .type "tuple" ∧ o.dict = none ∧ o.data = .seq its n ∧ its.size ≤ sizeLine ∧ Vals vs its.toList
theorem TupP.sq {K : PySem.W.Frag} {H : Hp} {a : Addr} {vs : List V} (h : TupP K H a vs) : SqT K H a vs := by
  rcases h with ⟨o, h, _⟩ | ⟨o, its, n, h1, h2, _, h4⟩
  · exact .inl (.inr ⟨o, h⟩)
  · exact .inr ⟨o, its, n, h1, h2, h4⟩
/-- a new tuple, where a rule gives one -/
def NewT (H : Hp) (xs : List V) (Q : VK) : Prop := ∀ p o, H p = none → o.dict = none → Q (.ref p) (upd H p (.frz o (.tup xs)))
section
variable {X : Cx} {pins : List (Addr × Obj)} {σ : L2.St} {H : Hp} {s : Shared}
theorem laidT {xs : List V} {us : List Value} {Q : VK} {t' : Nat} {h' : Heap} (I : Inv X pins σ H s) (kp : ∀ b o, s.heap.get? b = some o → h'.get? b = some o) (r : Vals xs us) (z : xs.length ≤ sizeLine) (q : NewT H xs Q) :
    EP X pins σ Q (.ref h'.objs.size) { s with heap := h'.push { cls := .type "tuple", data := .seq us.toArray }, toks := t' } := by
  have I0 : Inv X pins σ H { s with heap := h', toks := t' } := I.kept kp
  refine ⟨.ref h'.objs.size, _, I0.laid (a := h'.objs.size) (o := .frz { cls := .type "tuple", data := .seq us.toArray } (.tup xs)) (t' := t') (fun b o e => Heap.get?_push_of_some _ e) (Nat.le_refl _) ⟨Heap.get?_push_size _ rfl, z, us, r, IsTup.new _ _⟩, rfl, q _ _ (I0.hok.fresh (Nat.le_refl _)) rfl⟩
end
def tTupP (t : TA) : TE := fun σ H Q => t σ H fun xs H1 => xs.length ≤ sizeLine ∧ NewT H1 xs Q
theorem pe_tupP {X : Cx} {es : List Expr} {t : TA} {x1 pos} (h : PA X es t) : PE X (.Tuple es x1 pos) (tTupP t) := by
  refine ⟨fun pins s σ H Q I hq => ?_⟩
  refine wpAny_Tuple_spliced (thn (h.run pos pins s σ H _ I hq) fun us s1 ⟨xs, H1, I1, r, z, q⟩ => ⟨by rw [← r.length]; exact z, ?_⟩)
  exact laidT (t' := s1.toks) (h' := s1.heap) I1 (fun _ _ e => e) r z q
def rCatP (K : PySem.W.Frag) : R2 := fun x y H Q => ∃ a b xs ys, x = .ref a ∧ y = .ref b ∧ SqT K H a xs ∧ SqT K H b ys ∧ xs.length + ys.length ≤ sizeLine ∧
  (xs = [] → Q (.ref b) H) ∧ (ys = [] → Q (.ref a) H) ∧ NewT H (xs ++ ys) Q
theorem op_catP {X : Cx} : OpR X (binaryOp .Add) (rCatP X.K) := by
  intro pins s σ H x y v u Q I rx ry h
  obtain ⟨a, b, xs, ys, rfl, rfl, ha, hb, hz, q0, q1, q2⟩ := h
  cases rx
  cases ry
  obtain ⟨its, r1, p1, _⟩ := I.tuple ha
  obtain ⟨its2, r2, p2, _⟩ := I.tuple hb
  by_cases hx : xs = []
  · subst hx
    cases r1
    exact cat_tup0 p1 p2 ⟨.ref b, H, I, rfl, q0 rfl⟩
  · refine HT.cat_tup p1 p2 (fun z => hx (r1.nil_iff.mp z)) (fun z => ⟨.ref a, H, I, rfl, q1 (r2.nil_iff.mp z)⟩) (fun z => ?_) (by rw [← r1.length, ← r2.length]; exact hz)
    exact laidT (t' := s.toks) (h' := s.heap) I (fun _ _ e => e) (r1.append r2) (by rw [List.length_append]; exact hz) q2
def rSlP (K : PySem.W.Frag) : V → Option Int → Option Int → Hp → VK → Prop := fun x lo hi H Q => ∃ a xs, x = .ref a ∧ SqT K H a xs ∧
  (HT.sIx xs.length 0 lo = 0 ∧ HT.sIx xs.length xs.length hi = xs.length → Q (.ref a) H) ∧ NewT H (cutV xs lo hi) Q
theorem sl_tupP {X : Cx} : SlR X (rSlP X.K) := by
  intro pins s σ H x v vl vu lo hi sl Q I rx hs pl pu h
  obtain ⟨a, xs, rfl, hx, q1, q2⟩ := h
  cases rx
  obtain ⟨its, r, ht, hz⟩ := I.tuple hx
  have hlen : its.toArray.size = xs.length := by rw [List.size_toArray]; exact r.length.symm
  refine ⟨"tuple", _, PyProof.Rows.slot_tuple_getitem.lookup, ht.typeIs, ?_⟩
  by_cases hw : HT.sIx xs.length 0 lo = 0 ∧ HT.sIx xs.length xs.length hi = xs.length
  · exact getItem_tuple_whole ht hs pl pu (by rw [hlen]; exact hw) ⟨.ref a, H, I, rfl, q1 hw⟩
  · refine HT.getItem_tuple_cut ht hs pl pu (by rw [hlen]; exact hw) ?_ (by rw [hlen]; exact hz)
    rw [hlen]
    have rr : Vals (cutV xs lo hi) _ := (r.drop (HT.sIx xs.length 0 lo)).take (HT.sIx xs.length xs.length hi - HT.sIx xs.length 0 lo)
    exact laidT (t' := s.toks) (h' := s.heap) I (fun _ _ e => e) rr (Nat.le_trans (cutV_length xs lo hi) hz) q2
theorem call_tupleP {X : Cx} : CallR X (.type "tuple") (fun xs H Q => ∃ p ys, xs = [.ref p] ∧ ((SqL X.K H p ys ∧ NewT H ys Q) ∨ (SqT X.K H p ys ∧ Q (.ref p) H))) := by
  intro pins s σ H xs us Q I r h
  obtain ⟨p, ys, rfl, h⟩ := h
  obtain ⟨u, rfl, rx⟩ := vals1 r
  cases rx
  rcases h with ⟨hq, q⟩ | ⟨hq, q⟩
  · obtain ⟨its, r', pl, hz⟩ := I.list hq
    have hlen := r'.length
    refine call_tuple_list pl.isList (fun h' kp => ?_) (by simp only [List.size_toArray] <;> omega)
    exact laidT (t' := s.toks) (h' := h') I kp r' hz q
  · obtain ⟨its, r', pl, hz⟩ := I.tuple hq
    exact call_tuple_same pl ⟨.ref p, H, I, rfl, q⟩
theorem exists_list {α : Type} (n : Nat) (P : Nat → α → Prop) (h : ∀ j, j < n → ∃ x, P j x) : ∃ xs : List α, xs.length = n ∧ ∀ j x, xs[j]? = some x → P j x := by
  induction n with
  | zero => exact ⟨[], rfl, fun j x e => by simp at e⟩
  | succ n ih =>
    obtain ⟨xs, e1, e2⟩ := ih fun j hj => h j (Nat.lt_succ_of_lt hj)
    obtain ⟨x, hx⟩ := h n (Nat.lt_succ_self n)
    refine ⟨xs ++ [x], by simp [e1], fun j y e => ?_⟩
    by_cases hj : j < xs.length
    · rw [List.getElem?_append_left hj] at e; exact e2 j y e
    · rw [List.getElem?_append_right (by omega)] at e
      have : j - xs.length = 0 := by
        cases q : j - xs.length with
        | zero => rfl
        | succ k => rw [q] at e; simp at e
      rw [this] at e
      simp at e
      have : j = n := by omega
      subst this; subst e; exact hx
/-- dict(t) of a tuple of pairs -/
theorem call_dictT {X : Cx} (hcalm : X.calm = true) : CallR X (.type "dict") (fun xs H Q => ∃ (a : Addr) (vs : List V) (ps : List Addr) (kvs : List (Key × V)), xs = [.ref a] ∧ TupP X.K H a vs ∧ vs = ps.map V.ref ∧ Paired (fun p kv => SqT X.K H p [kV kv.1, kv.2]) ps kvs ∧
    ∀ p, H p = none → Q (.ref p) (upd H p (.dK (mergeK [] kvs)))) := by
  intro pins s σ H xs us Q I r q
  obtain ⟨a, vs, ps, kvs, ex, hq, ev, hp, q⟩ := q
  subst ex
  subst ev
  obtain ⟨u, eu, rx⟩ := vals1 r
  subst eu
  cases rx
  obtain ⟨its, rv, hz, hs⟩ : ∃ its : List Value, Vals (ps.map V.ref) its ∧ (ps.map V.ref).length ≤ sizeLine ∧ PySem.PlainSeq "tuple" s.heap a its.toArray := by
    rcases hq with ⟨o, h, hd⟩ | ⟨o, its, n, h1, h2, h3, h4, h5, h6⟩
    · obtain ⟨he, hz, its, rv, ⟨o', e', c', n, d'⟩⟩ := I.hok a _ h
      rw [he] at e'; cases e'
      exact ⟨its, rv, hz, o, n, he, c', hd, d'⟩
    · refine ⟨its.toList, h6, ?_, o, n, I.kIn a o h1, h2, h3, by simpa using h4⟩
      have e := h6.length
      simp only [Array.length_toList] at e
      omega
  have ei := refs_at rv
  subst ei
  rw [List.length_map] at hz
  obtain ⟨prs, rel, hl, hpr⟩ := pairs_of I hp
  obtain ⟨ks, e1, e2⟩ := exists_list (α := Value × Value) prs.length (fun j x => ∃ b q', ps[j]? = some b ∧ prs[j]? = some q' ∧ q'.2 = x.2 ∧ keyIs q'.1 x.1 = true ∧ IsTup s.heap b #[x.1, x.2]) (fun j hj => by
    obtain ⟨b, u, h1, h2, h3⟩ := hpr j _ (List.getElem?_eq_getElem hj)
    exact ⟨(u, prs[j].2), b, prs[j], h1, List.getElem?_eq_getElem hj, rfl, h3, h2⟩)
  refine PySem.call_dict_pairs (knd := mixKind X.prog X.w) (kvs := prs) (PySem.PairArg.tuple a (ps.map Value.ref).toArray (fun j => ps.getD j 0) ks) (I.ok.hd hcalm) ⟨hs, by simp [e1, hl], fun j k v hj => ?_⟩ ⟨e1.symm, fun i key v hr => ?_⟩ (by rw [e1, hl]; exact hz) fun h' tk hd' k => ?_
  · obtain ⟨b, q', h1, h2, h3, h4, h5⟩ := e2 j (k, v) hj
    refine ⟨by simp [h1], .inl ?_⟩
    have : ps.getD j 0 = b := by simp [List.getD, h1]
    show s.heap.IsTuple (ps.getD j 0) #[k, v]
    rw [this]
    obtain ⟨o, a1, a2, n, a3⟩ := h5
    exact ⟨o, a1, a2, n, a3⟩
  · obtain ⟨b, q', h1, h2, h3, h4, h5⟩ := e2 i (key, v) hr
    have h3 : q'.2 = v := h3
    exact ⟨q'.1, by rw [h2, ← h3], h4⟩
  · have hm : (s.heap.objs.size == sysModules) = false := beq_eq_false_iff_ne.mpr (Nat.ne_of_gt I.big)
    have hlen : (mergeK [] kvs).length ≤ sizeLine := by
      refine Nat.le_trans (length_mergeK kvs []) ?_
      rw [List.length_nil, Nat.zero_add, rel.length, hl]
      exact hz
    exact ⟨.ref s.heap.objs.size, upd H s.heap.objs.size (.dK (mergeK [] kvs)), I.laid (t' := tk) (fun b o e => k b o (by simp) e) (Nat.le_refl _) (show ObjOk X.prog X.w _ _ _ (.dK (mergeK [] kvs)) from ⟨hlen, hm, merged [] prs, KV.merge rel .nil, hd'⟩), rfl, q _ (I.hok.fresh (Nat.le_refl _))⟩
end Mi
set_option Elab.async false
set_option linter.all false
set_option maxRecDepth 100000
set_option maxHeartbeats 2000000
/-! Mi C: how values and the heap stand in the model -/
namespace Mi
open PySem PySem.Spec PyProof.Rows L2

structure Gs where
  K : PySem.W.Frag
  cs : List (Addr × Addr)
  ca : Nat → Addr
  fnm : Nat → Str
  xc : Addr → Prop

def toS (s : Sg) : Str := ⟨s.toArray⟩
theorem toS_inj {a b : Sg} (h : toS a = toS b) : a = b := by
  have := congrArg (fun x : Str => x.cps.toList) h
  simpa [toS] using this

/-- a list that nobody changes -/
def ScrK (K : PySem.W.Frag) (H : Hp) (a : Addr) (vs : List V) : Prop :=
  (∃ o, H a = some (.frz o (.lst vs))) ∨
    ∃ (o : Obj) (its : Array Value) (n : Nat), K.lookup a = some o ∧ o.cls = .type "list" ∧ o.dict = none ∧ o.data = .seq its n ∧ its.size ≤ sizeLine ∧ Vals vs its.toList
theorem ScrK.sq {K : PySem.W.Frag} {H : Hp} {a : Addr} {vs : List V} (h : ScrK K H a vs) : SqL K H a vs := by
  rcases h with ⟨o, h⟩ | h
  · exact .inl (.inr ⟨o, h⟩)
  · exact .inr h
mutual
inductive Rep (K : PySem.W.Frag) (ρ : List Addr) (H : Hp) : PV → V → Prop
  | non : Rep K ρ H .non .non
  | bl (b : Bool) : Rep K ρ H (.bl b) (.bl b)
  | int (i : Int) : Rep K ρ H (.int i) (.int i)
  | str (s : Sg) : Rep K ρ H (.str s) (.str (toS s))
  | tup {a : Addr} {vs : List V} {xs : List PV} : TupP K H a vs → Reps K ρ H xs vs → Rep K ρ H (.tup xs) (.ref a)
  | ref {l : Nat} {a : Addr} : ρ[l]? = some a → Rep K ρ H (.ref l) (.ref a)
  | lis {a : Addr} {vs : List V} {xs : List PV} : ScrK K H a vs → Reps K ρ H xs vs → Rep K ρ H (.lis xs) (.ref a)
inductive Reps (K : PySem.W.Frag) (ρ : List Addr) (H : Hp) : List PV → List V → Prop
  | nil : Reps K ρ H [] []
  | cons {x : PV} {v : V} {xs : List PV} {vs : List V} : Rep K ρ H x v → Reps K ρ H xs vs → Reps K ρ H (x :: xs) (v :: vs)
end

def Stab : HO → Prop
  | .tup _ => True
  | .frz _ _ => True
  | .ext _ => True
  | _ => False
structure Ext (ρ ρ' : List Addr) (H H' : Hp) : Prop where
  pre : ∃ r, ρ' = ρ ++ r ∧ ∀ a ∈ r, H a = none
  keep : ∀ a o, H a = some o → (Stab o ∨ a ∉ ρ) → (∀ ps, o ≠ .tbl ps) → H' a = some o
  there : ∀ a, H a ≠ none → H' a ≠ none
theorem Ext.refl {ρ : List Addr} {H : Hp} : Ext ρ ρ H H := ⟨⟨[], by simp, fun a h => by simp at h⟩, fun _ _ h _ _ => h, fun _ h => h⟩
theorem Ext.trans {ρ ρ1 ρ2 : List Addr} {H H1 H2 : Hp} (a : Ext ρ ρ1 H H1) (b : Ext ρ1 ρ2 H1 H2) : Ext ρ ρ2 H H2 := by
  obtain ⟨r, e1, f1⟩ := a.pre
  obtain ⟨r', e2, f2⟩ := b.pre
  refine ⟨⟨r ++ r', by rw [e2, e1, List.append_assoc], fun c hc => ?_⟩, fun c o h s n => ?_, fun c h => b.there c (a.there c h)⟩
  · rcases List.mem_append.mp hc with h | h
    · exact f1 c h
    · have h1 := f2 c h
      cases q : H c with
      | none => rfl
      | some o => exact absurd h1 (a.there c (by rw [q]; simp))
  · refine b.keep c o (a.keep c o h s n) ?_ n
    rcases s with s | s
    · exact .inl s
    · refine .inr fun hc => ?_
      rw [e1] at hc
      rcases List.mem_append.mp hc with hc | hc
      · exact s hc
      · rw [f1 c hc] at h; cases h
theorem Ext.get {ρ ρ' : List Addr} {H H' : Hp} (e : Ext ρ ρ' H H') {l : Nat} {a : Addr} (h : ρ[l]? = some a) : ρ'[l]? = some a := by
  obtain ⟨r, e1, _⟩ := e.pre
  rw [e1]
  exact List.getElem?_append_left (List.getElem?_eq_some_iff.mp h).1 ▸ h
theorem Ext.tup {ρ ρ' : List Addr} {H H' : Hp} (e : Ext ρ ρ' H H') {K : PySem.W.Frag} {a : Addr} {vs : List V} (h : TupP K H a vs) : TupP K H' a vs := by
  rcases h with ⟨o, h, d⟩ | h
  · exact .inl ⟨o, e.keep a _ h (.inl trivial) (fun _ z => nomatch z), d⟩
  · exact .inr h
theorem Ext.scr {ρ ρ' : List Addr} {H H' : Hp} (e : Ext ρ ρ' H H') {K : PySem.W.Frag} {a : Addr} {vs : List V} (h : ScrK K H a vs) : ScrK K H' a vs := by
  rcases h with ⟨o, h⟩ | h
  · exact .inl ⟨o, e.keep a _ h (.inl trivial) (fun _ z => nomatch z)⟩
  · exact .inr h
mutual
theorem Rep.mono {K : PySem.W.Frag} {ρ ρ' : List Addr} {H H' : Hp} (e : Ext ρ ρ' H H') : ∀ {x : PV} {v : V}, Rep K ρ H x v → Rep K ρ' H' x v
  | _, _, .non => .non
  | _, _, .bl b => .bl b
  | _, _, .int i => .int i
  | _, _, .str s => .str s
  | _, _, .tup h r => .tup (e.tup h) (Reps.mono e r)
  | _, _, .ref h => .ref (e.get h)
  | _, _, .lis h r => .lis (e.scr h) (Reps.mono e r)
theorem Reps.mono {K : PySem.W.Frag} {ρ ρ' : List Addr} {H H' : Hp} (e : Ext ρ ρ' H H') : ∀ {x : List PV} {v : List V}, Reps K ρ H x v → Reps K ρ' H' x v
  | _, _, .nil => .nil
  | _, _, .cons a r => .cons (Rep.mono e a) (Reps.mono e r)
end
section
variable {K : PySem.W.Frag} {ρ : List Addr} {H : Hp}
theorem Reps.length : ∀ {xs : List PV} {vs : List V}, Reps K ρ H xs vs → xs.length = vs.length
  | _, _, .nil => rfl
  | _, _, .cons _ r => by simp [r.length]
theorem Reps.append : ∀ {xs ys : List PV} {vs ws : List V}, Reps K ρ H xs vs → Reps K ρ H ys ws → Reps K ρ H (xs ++ ys) (vs ++ ws)
  | _, _, _, _, .nil, s => s
  | _, _, _, _, .cons a r, s => .cons a (Reps.append r s)
theorem Reps.drop : ∀ {xs : List PV} {vs : List V} (n : Nat), Reps K ρ H xs vs → Reps K ρ H (xs.drop n) (vs.drop n)
  | _, _, 0, r => r
  | _, _, _ + 1, .nil => .nil
  | _, _, n + 1, .cons _ r => Reps.drop n r
theorem Reps.take : ∀ {xs : List PV} {vs : List V} (n : Nat), Reps K ρ H xs vs → Reps K ρ H (xs.take n) (vs.take n)
  | _, _, 0, _ => .nil
  | _, _, _ + 1, .nil => .nil
  | _, _, n + 1, .cons a r => .cons a (Reps.take n r)
theorem Reps.get : ∀ {xs : List PV} {vs : List V} {i : Nat} {x : PV}, Reps K ρ H xs vs → xs[i]? = some x → ∃ v, vs[i]? = some v ∧ Rep K ρ H x v
  | _, _, _, _, .nil, e => by simp at e
  | _, _, 0, _, .cons a r, e => by simp at e; subst e; exact ⟨_, rfl, a⟩
  | _, _, i + 1, _, .cons _ r, e => by
    obtain ⟨v, h1, h2⟩ := Reps.get (i := i) r (by simpa using e)
    exact ⟨v, by simpa using h1, h2⟩
theorem Reps.set {x : PV} {v : V} (a : Rep K ρ H x v) : ∀ {xs : List PV} {vs : List V} (i : Nat), Reps K ρ H xs vs → Reps K ρ H (xs.set i x) (vs.set i v)
  | _, _, _, .nil => .nil
  | _, _, 0, .cons _ r => .cons a r
  | _, _, i + 1, .cons b r => .cons b (Reps.set a i r)
theorem Reps.snoc {x : PV} {v : V} {xs : List PV} {vs : List V} (r : Reps K ρ H xs vs) (a : Rep K ρ H x v) : Reps K ρ H (xs ++ [x]) (vs ++ [v]) := r.append (.cons a .nil)
theorem Reps.cut {xs : List PV} {vs : List V} (r : Reps K ρ H xs vs) (lo hi : Option Int) : Reps K ρ H (cutP xs lo hi) (cutV vs lo hi) := by
  unfold cutP cutV
  rw [r.length]
  exact (r.drop _).take _
theorem Reps.at {xs : List PV} {vs : List V} {i : Int} {x : PV} (r : Reps K ρ H xs vs) (h : atP xs i = some x) : ∃ v, atI vs i = some v ∧ Rep K ρ H x v := by
  unfold atP at h
  unfold atI
  rw [r.length] at h
  cases q : ixN vs.length i with
  | none => rw [q] at h; cases h
  | some j =>
    rw [q] at h
    exact r.get h
end

/-! ### tables of code objects -/
def CodeT (c P : Addr) : HO := .ext fun h => PySem.W.CodeHd h c P
/-- a code object with its table, not one of those that stood here first -/
def CodeAt (x : Addr → Prop) (H : Hp) (c P : Addr) : Prop := H c = some (CodeT c P) ∧ ¬ x c
def TabT (x : Addr → Prop) (H : Hp) (P : Addr) : Prop :=
  ∃ ps : Array Value, H P = some (.tbl ps) ∧ TriplesOk ps.toList ∧ ∀ (pos : Pos) (cv : Value), codeAmong pos ps.toList = some cv → ∃ c' P', cv = .ref c' ∧ CodeAt x H c' P'
def CT (x : Addr → Prop) (cs : List (Addr × Addr)) (H : Hp) : Prop := (∀ p ∈ cs, TabT x H p.2) ∧ (∀ c P, CodeAt x H c P → TabT x H P) ∧ ∀ c, x c → H c ≠ none
/-- what may be changed here -/
def Soft : Option HO → Prop
  | none => True
  | some (.lst _) => True
  | some (.dK _) => True
  | some (.dT _) => True
  | some (.set _ _) => True
  | some (.ins _ _ _) => True
  | some (.own _) => True
  | _ => False
theorem CT.upd {x : Addr → Prop} {cs : List (Addr × Addr)} {H : Hp} {b : Addr} {o : HO} (c : CT x cs H) (h : Soft (H b)) (ho : ∀ f, o ≠ .ext f) : CT x cs (upd H b o) := by
  have ne : ∀ a ps, H a = some (.tbl ps) → a ≠ b := fun a ps e z => by subst z; rw [e] at h; exact h
  have ne2 : ∀ a f, H a = some (.ext f) → a ≠ b := fun a f e z => by subst z; rw [e] at h; exact h
  have T : ∀ {P}, TabT x H P → TabT x (L2.upd H b o) P := fun {P} ⟨ps, e, r, q⟩ => ⟨ps, by rw [upd_ne (ne P ps e)]; exact e, r, fun pos cv hc => by
    obtain ⟨c', P', h1, h2, h3⟩ := q pos cv hc
    exact ⟨c', P', h1, by rw [upd_ne (ne2 _ _ h2)]; exact h2, h3⟩⟩
  refine ⟨fun p hp => T (c.1 p hp), fun c' P' ⟨e, e'⟩ => ?_, fun a h => ?_⟩
  rotate_left
  · by_cases z : a = b
    · subst z; rw [upd_same]; simp
    · rw [upd_ne z]; exact c.2.2 a h
  by_cases z : c' = b
  · subst z
    rw [upd_same] at e
    exact absurd (Option.some.inj e) (ho _)
  · rw [upd_ne z] at e
    exact T (c.2.1 c' P' ⟨e, e'⟩)

/-! ### objects -/
def ScrL (K : PySem.W.Frag) (H : Hp) (a : Addr) (vs : List V) : Prop := ∃ o, H a = some (.frz o (.lst vs))
theorem ScrL.sq {K : PySem.W.Frag} {H : Hp} {a : Addr} {vs : List V} (h : ScrL K H a vs) : SqL K H a vs := by
  obtain ⟨o, h⟩ := h
  exact .inl (.inr ⟨o, h⟩)
theorem ScrL.mono {K : PySem.W.Frag} {ρ ρ' : List Addr} {H H' : Hp} {a : Addr} {vs : List V} (e : Ext ρ ρ' H H') (h : ScrL K H a vs) : ScrL K H' a vs := by
  obtain ⟨o, h⟩ := h
  exact ⟨o, e.keep a _ h (.inl trivial) (fun _ z => nomatch z)⟩
def keyS : KeyP → Key
  | .inl i => .inl i
  | .inr s => .inr (toS s)
theorem keyS_inj {a b : KeyP} (h : keyS a = keyS b) : a = b := by
  cases a <;> cases b
  · exact congrArg _ (Sum.inl.inj h)
  · cases h
  · cases h
  · exact congrArg _ (toS_inj (Sum.inr.inj h))
inductive KReps (K : PySem.W.Frag) (ρ : List Addr) (H : Hp) : List (KeyP × PV) → List (Key × V) → Prop
  | nil : KReps K ρ H [] []
  | cons {k : KeyP} {x : PV} {v : V} {xs : List (KeyP × PV)} {vs : List (Key × V)} : Rep K ρ H x v → KReps K ρ H xs vs → KReps K ρ H ((k, x) :: xs) ((keyS k, v) :: vs)
inductive FReps (K : PySem.W.Frag) (fnm : Nat → Str) (ρ : List Addr) (H : Hp) : List (Nat × PV) → List (Str × V) → Prop
  | nil : FReps K fnm ρ H [] []
  | cons {k : Nat} {x : PV} {v : V} {xs : List (Nat × PV)} {vs : List (Str × V)} : Rep K ρ H x v → FReps K fnm ρ H xs vs → FReps K fnm ρ H ((k, x) :: xs) ((fnm k, v) :: vs)
theorem KReps.mono {K : PySem.W.Frag} {ρ ρ' : List Addr} {H H' : Hp} (e : Ext ρ ρ' H H') : ∀ {x : List (KeyP × PV)} {v : List (Key × V)}, KReps K ρ H x v → KReps K ρ' H' x v
  | _, _, .nil => .nil
  | _, _, .cons a r => .cons (a.mono e) (KReps.mono e r)
theorem FReps.mono {K : PySem.W.Frag} {fnm : Nat → Str} {ρ ρ' : List Addr} {H H' : Hp} (e : Ext ρ ρ' H H') : ∀ {x : List (Nat × PV)} {v : List (Str × V)}, FReps K fnm ρ H x v → FReps K fnm ρ' H' x v
  | _, _, .nil => .nil
  | _, _, .cons a r => .cons (a.mono e) (FReps.mono e r)
def ORep (G : Gs) (ρ : List Addr) (H : Hp) : AO → Addr → Prop
  | .lst xs, a => ∃ vs, H a = some (.lst vs) ∧ Reps G.K ρ H xs vs
  | .scr xs, a => ∃ vs, ScrL G.K H a vs ∧ Reps G.K ρ H xs vs
  | .dk kvs, a => ∃ ws, H a = some (.dK ws) ∧ KReps G.K ρ H kvs ws
  | .ins c fs, a => ∃ dx gs, H a = some (.ins (G.ca c) dx gs) ∧ FReps G.K G.fnm ρ H fs gs
def AO.mu : AO → Bool
  | .scr _ => false
  | _ => true
def Mu (h : AH) (l : Nat) : Prop := ∃ o, h[l]? = some o ∧ o.mu = true
structure Wf (G : Gs) (ρ : List Addr) (h : AH) (H : Hp) : Prop where
  len : ρ.length = h.length
  obj : ∀ (l : Nat) (o : AO) (a : Addr), h[l]? = some o → ρ[l]? = some a → ORep G ρ H o a
  inj : ∀ (l l' : Nat) (a : Addr), ρ[l]? = some a → ρ[l']? = some a → Mu h l → Mu h l' → l = l'
  ct : CT G.xc G.cs H
section
variable {G : Gs} {ρ : List Addr} {h : AH} {H : Hp}
/-- an object of a kind that is changed here is tracked as such -/
theorem ORep.soft {o : AO} {a : Addr} (r : ORep G ρ H o a) (m : o.mu = true) : Soft (H a) ∧ H a ≠ none := by
  cases o with
  | lst xs => obtain ⟨vs, e, _⟩ := r; rw [e]; exact ⟨trivial, by simp⟩
  | scr xs => cases m
  | dk kvs => obtain ⟨vs, e, _⟩ := r; rw [e]; exact ⟨trivial, by simp⟩
  | ins c fs => obtain ⟨dx, gs, e, _⟩ := r; rw [e]; exact ⟨trivial, by simp⟩
/-- an object stays if it stays where it is -/
theorem ORep.mono {ρ' : List Addr} {H' : Hp} {o : AO} {a : Addr} (e : Ext ρ ρ' H H') (r : ORep G ρ H o a) (s : o.mu = true → H' a = H a) : ORep G ρ' H' o a := by
  cases o with
  | lst xs => obtain ⟨vs, q, r⟩ := r; exact ⟨vs, by rw [s rfl]; exact q, r.mono e⟩
  | scr xs => obtain ⟨vs, q, r⟩ := r; exact ⟨vs, q.mono e, r.mono e⟩
  | dk kvs => obtain ⟨vs, q, r⟩ := r; exact ⟨vs, by rw [s rfl]; exact q, r.mono e⟩
  | ins c fs => obtain ⟨dx, gs, q, r⟩ := r; exact ⟨dx, gs, by rw [s rfl]; exact q, r.mono e⟩
theorem not_stab_soft {o : HO} (h : Soft (some o)) : ¬ Stab o := by
  cases o <;> simp_all [Soft, Stab]
/-- something new that is no object of ours -/
theorem Ext.new {p : Addr} {o : HO} (hp : H p = none) : Ext ρ ρ H (upd H p o) :=
  ⟨⟨[], by simp, fun a h => by simp at h⟩, fun a u e _ _ => by rw [upd_ne (ne_of_none e hp)]; exact e, fun a e => by
    by_cases z : a = p
    · subst z; exact absurd hp e
    · rw [upd_ne z]; exact e⟩
theorem Wf.new {p : Addr} {o : HO} (w : Wf G ρ h H) (hp : H p = none) (ho : ∀ f, o ≠ .ext f := by intro _ z; cases z) : Wf G ρ h (upd H p o) :=
  ⟨w.len, fun l q a h1 h2 => (w.obj l q a h1 h2).mono (Ext.new hp) fun m => by rw [upd_ne]; intro z; subst z; exact ((w.obj l q a h1 h2).soft m).2 hp, w.inj, w.ct.upd (by rw [hp]; trivial) ho⟩
/-- a new object of ours -/
theorem Ext.obj {p : Addr} {o : HO} (hp : H p = none) : Ext ρ (ρ ++ [p]) H (upd H p o) :=
  ⟨⟨[p], rfl, fun a h => by rw [List.mem_singleton.mp h]; exact hp⟩, (Ext.new (ρ := ρ) hp).keep, (Ext.new (ρ := ρ) hp).there⟩
theorem snoc_get {α : Type} {xs : List α} {x y : α} {i : Nat} (h : (xs ++ [x])[i]? = some y) : (xs[i]? = some y ∧ i < xs.length) ∨ (i = xs.length ∧ y = x) := by
  by_cases hi : i < xs.length
  · rw [List.getElem?_append_left hi] at h; exact .inl ⟨h, hi⟩
  · rw [List.getElem?_append_right (by omega)] at h
    by_cases e : i - xs.length = 0
    · rw [e] at h; simp at h; exact .inr ⟨by omega, h.symm⟩
    · obtain ⟨k, hk⟩ : ∃ k, i - xs.length = k + 1 := ⟨i - xs.length - 1, by omega⟩
      rw [hk] at h; simp at h
theorem Wf.add {p : Addr} {u : HO} {o : AO} (w : Wf G ρ h H) (hp : H p = none) (r : ORep G (ρ ++ [p]) (upd H p u) o p) (ho : ∀ f, u ≠ .ext f := by intro _ z; cases z) : Wf G (ρ ++ [p]) (h ++ [o]) (upd H p u) := by
  have e : Ext ρ (ρ ++ [p]) H (upd H p u) := Ext.obj hp
  have ne : ∀ (l : Nat) (q : AO) (a : Addr), h[l]? = some q → ρ[l]? = some a → q.mu = true → a ≠ p := fun l q a h1 h2 m z => by subst z; exact ((w.obj l q a h1 h2).soft m).2 hp
  refine ⟨by simp [w.len], fun l q a h1 h2 => ?_, fun l l' a h1 h2 m m' => ?_, w.ct.upd (by rw [hp]; trivial) ho⟩
  · rcases snoc_get h1 with ⟨h1, _⟩ | ⟨h1, h1'⟩
    · rcases snoc_get h2 with ⟨h2, _⟩ | ⟨h2, h2'⟩
      · exact (w.obj l q a h1 h2).mono e fun m => upd_ne (ne l q a h1 h2 m)
      · have := (List.getElem?_eq_some_iff.mp h1).1
        rw [h2, w.len] at this
        exact absurd this (Nat.lt_irrefl _)
    · rcases snoc_get h2 with ⟨h2, h3⟩ | ⟨h2, h2'⟩
      · rw [h1, w.len] at h3
        exact absurd h3 (Nat.lt_irrefl _)
      · subst h1'; subst h2'; exact r
  · obtain ⟨q, hq, mq⟩ := m
    obtain ⟨q', hq', mq'⟩ := m'
    rcases snoc_get hq with ⟨hq, lq⟩ | ⟨hq, eq⟩
    · rcases snoc_get h1 with ⟨h1, _⟩ | ⟨h1, h1'⟩
      · rcases snoc_get hq' with ⟨hq', lq'⟩ | ⟨hq', eq'⟩
        · rcases snoc_get h2 with ⟨h2, _⟩ | ⟨h2, h2'⟩
          · exact w.inj l l' a h1 h2 ⟨q, hq, mq⟩ ⟨q', hq', mq'⟩
          · rw [h2, w.len] at lq'; exact absurd lq' (Nat.lt_irrefl _)
        · rcases snoc_get h2 with ⟨h2, l2⟩ | ⟨h2, h2'⟩
          · rw [hq', w.len] at l2; exact absurd l2 (Nat.lt_irrefl _)
          · exact absurd h2' (ne l q a hq h1 mq)
      · rw [h1, w.len] at lq; exact absurd lq (Nat.lt_irrefl _)
    · rcases snoc_get h1 with ⟨h1, l1⟩ | ⟨h1, h1'⟩
      · rw [hq, w.len] at l1; exact absurd l1 (Nat.lt_irrefl _)
      · rcases snoc_get hq' with ⟨hq', lq'⟩ | ⟨hq', eq'⟩
        · rcases snoc_get h2 with ⟨h2, _⟩ | ⟨h2, h2'⟩
          · exact absurd h1' (ne l' q' a hq' h2 mq')
          · rw [h2, w.len] at lq'; exact absurd lq' (Nat.lt_irrefl _)
        · rw [hq, hq']
/-- an object of ours changed -/
theorem Ext.set {a : Addr} {l : Nat} {u : HO} (hl : ρ[l]? = some a) (hs : Soft (H a)) (hn : H a ≠ none) : Ext ρ ρ H (upd H a u) := by
  have hm : a ∈ ρ := List.mem_of_getElem? hl
  refine ⟨⟨[], by simp, fun a h => by simp at h⟩, fun b o e s n => ?_, fun b e => ?_⟩
  · rw [upd_ne]
    · exact e
    · intro z
      subst z
      rcases s with s | s
      · rw [e] at hs; exact not_stab_soft hs s
      · exact s hm
  · by_cases z : b = a
    · subst z; rw [upd_same]; simp
    · rw [upd_ne z]; exact e
theorem Wf.set {a : Addr} {l : Nat} {u : HO} {o o' : AO} (w : Wf G ρ h H) (hl : ρ[l]? = some a) (ho : h[l]? = some o) (m : o.mu = true) (m' : o'.mu = true) (r : ORep G ρ (upd H a u) o' a) (hx : ∀ f, u ≠ .ext f := by intro _ z; cases z) : Wf G ρ (h.set l o') (upd H a u) := by
  obtain ⟨hs, hn⟩ := (w.obj l o a ho hl).soft m
  have e : Ext ρ ρ H (upd H a u) := Ext.set hl hs hn
  have hlt : l < h.length := (List.getElem?_eq_some_iff.mp ho).1
  have mu : ∀ l', Mu (h.set l o') l' → Mu h l' := fun l' ⟨q, h1, h2⟩ => by
    by_cases z : l' = l
    · subst z; exact ⟨o, ho, m⟩
    · rw [List.getElem?_set_ne (Ne.symm z)] at h1; exact ⟨q, h1, h2⟩
  refine ⟨by simp [w.len], fun l' q b h1 h2 => ?_, fun l1 l2 b h1 h2 m1 m2 => w.inj l1 l2 b h1 h2 (mu l1 m1) (mu l2 m2), w.ct.upd hs hx⟩
  by_cases z : l' = l
  · subst z
    rw [List.getElem?_set_self hlt] at h1
    cases h1
    rw [hl] at h2; cases h2
    exact r
  · rw [List.getElem?_set_ne (Ne.symm z)] at h1
    refine (w.obj l' q b h1 h2).mono e fun mq => upd_ne fun y => ?_
    subst y
    exact z (w.inj l' l b h2 hl ⟨q, h1, mq⟩ ⟨o, ho, m⟩)
end
section
variable {G : Gs} {ρ : List Addr} {h : AH} {H : Hp}
structure Sub (ρ ρ' : List Addr) (H H' : Hp) : Prop where
  get : ∀ (l : Nat) (a : Addr), ρ[l]? = some a → ρ'[l]? = some a
  stab : ∀ a o u, H a = some (.frz o u) → H' a = some (.frz o u)
  ext : ∀ a f, H a = some (.ext f) → H' a = some (.ext f)
theorem Sub.tup {ρ ρ' : List Addr} {H H' : Hp} (e : Sub ρ ρ' H H') {K : PySem.W.Frag} {a : Addr} {vs : List V} (h : TupP K H a vs) : TupP K H' a vs := by
  rcases h with ⟨o, h, d⟩ | h
  · exact .inl ⟨o, e.stab a _ _ h, d⟩
  · exact .inr h
theorem Sub.scr {ρ ρ' : List Addr} {H H' : Hp} (e : Sub ρ ρ' H H') {K : PySem.W.Frag} {a : Addr} {vs : List V} (h : ScrK K H a vs) : ScrK K H' a vs := by
  rcases h with ⟨o, h⟩ | h
  · exact .inl ⟨o, e.stab a _ _ h⟩
  · exact .inr h
mutual
theorem Rep.sub {K : PySem.W.Frag} {ρ ρ' : List Addr} {H H' : Hp} (e : Sub ρ ρ' H H') : ∀ {x : PV} {v : V}, Rep K ρ H x v → Rep K ρ' H' x v
  | _, _, .non => .non
  | _, _, .bl b => .bl b
  | _, _, .int i => .int i
  | _, _, .str s => .str s
  | _, _, .tup h r => .tup (e.tup h) (Reps.sub e r)
  | _, _, .ref h => .ref (e.get _ _ h)
  | _, _, .lis h r => .lis (e.scr h) (Reps.sub e r)
theorem Reps.sub {K : PySem.W.Frag} {ρ ρ' : List Addr} {H H' : Hp} (e : Sub ρ ρ' H H') : ∀ {x : List PV} {v : List V}, Reps K ρ H x v → Reps K ρ' H' x v
  | _, _, .nil => .nil
  | _, _, .cons a r => .cons (Rep.sub e a) (Reps.sub e r)
end
theorem KReps.sub {K : PySem.W.Frag} {ρ ρ' : List Addr} {H H' : Hp} (e : Sub ρ ρ' H H') : ∀ {x : List (KeyP × PV)} {v : List (Key × V)}, KReps K ρ H x v → KReps K ρ' H' x v
  | _, _, .nil => .nil
  | _, _, .cons a r => .cons (a.sub e) (KReps.sub e r)
theorem FReps.sub {K : PySem.W.Frag} {fnm : Nat → Str} {ρ ρ' : List Addr} {H H' : Hp} (e : Sub ρ ρ' H H') : ∀ {x : List (Nat × PV)} {v : List (Str × V)}, FReps K fnm ρ H x v → FReps K fnm ρ' H' x v
  | _, _, .nil => .nil
  | _, _, .cons a r => .cons (a.sub e) (FReps.sub e r)
theorem ORep.sub {ρ' : List Addr} {H' : Hp} {o : AO} {a : Addr} (e : Sub ρ ρ' H H') (r : ORep G ρ H o a) (s : H' a = H a) : ORep G ρ' H' o a := by
  cases o with
  | lst xs => obtain ⟨vs, q, r⟩ := r; exact ⟨vs, by rw [s]; exact q, r.sub e⟩
  | scr xs => obtain ⟨vs, ⟨o, q⟩, r⟩ := r; exact ⟨vs, ⟨o, e.stab _ _ _ q⟩, r.sub e⟩
  | dk kvs => obtain ⟨vs, q, r⟩ := r; exact ⟨vs, by rw [s]; exact q, r.sub e⟩
  | ins c fs => obtain ⟨dx, gs, q, r⟩ := r; exact ⟨dx, gs, by rw [s]; exact q, r.sub e⟩
theorem Ext.sub {ρ' : List Addr} {H' : Hp} (e : Ext ρ ρ' H H') : Sub ρ ρ' H H' := ⟨fun _ _ h => e.get h, fun a o u h => e.keep a _ h (.inl trivial) (fun _ z => nomatch z), fun a f h => e.keep a _ h (.inl trivial) (fun _ z => nomatch z)⟩
theorem Sub.refl : Sub ρ ρ H H := ⟨fun _ _ h => h, fun _ _ _ h => h, fun _ _ h => h⟩
theorem Sub.trans {ρ1 ρ2 : List Addr} {H1 H2 : Hp} (a : Sub ρ ρ1 H H1) (b : Sub ρ1 ρ2 H1 H2) : Sub ρ ρ2 H H2 := ⟨fun _ _ h => b.get _ _ (a.get _ _ h), fun _ _ _ h => b.stab _ _ _ (a.stab _ _ _ h), fun _ _ h => b.ext _ _ (a.ext _ _ h)⟩
end
end Mi
set_option Elab.async false
set_option linter.all false
set_option maxRecDepth 100000
set_option maxHeartbeats 2000000
/-! Mi D: readings; operators -/
namespace Mi
open PySem PySem.Spec PyProof.Rows L2

theorem _root_.L2.PE.imp {X : Cx} {e : Expr} {t t' : TE} (p : PE X e t) (h : ∀ σ H Q, t' σ H Q → t σ H Q) : PE X e t' := ⟨fun pins s σ H Q I q => p.run pins s σ H Q I (h σ H Q q)⟩
theorem _root_.L2.PT.imp {X : Cx} {e : Expr} {t t' : TT} (p : PT X e t) (h : ∀ σ H Q, t' σ H Q → t σ H Q) : PT X e t' := ⟨fun pins s σ H Q I q => p.run pins s σ H Q I (h σ H Q q)⟩
theorem _root_.L2.PA.imp {X : Cx} {e : List Expr} {t t' : TA} (p : PA X e t) (h : ∀ σ H Q, t' σ H Q → t σ H Q) : PA X e t' := ⟨fun pos pins s σ H Q I q => p.run pos pins s σ H Q I (h σ H Q q)⟩
theorem _root_.L2.PS.imp {X : Cx} {e : Stmt} {t t' : TS} (p : PS X e t) (h : ∀ D σ H, t' D σ H → t D σ H) : PS X e t' := ⟨fun pins s σ H D I q => p.run pins s σ H D I (h D σ H q)⟩
theorem _root_.L2.PSs.imp {X : Cx} {e : List Stmt} {t t' : TS} (p : PSs X e t) (h : ∀ D σ H, t' D σ H → t D σ H) : PSs X e t' := ⟨fun pins s σ H D I q => p.run pins s σ H D I (h D σ H q)⟩
theorem _root_.L2.OpR.imp {X : Cx} {f : Value → Value → Sem Value} {r r' : R2} (p : OpR X f r) (h : ∀ x y H Q, r' x y H Q → r x y H Q) : OpR X f r' := fun pins s σ H x y v u Q I a b q => p pins s σ H x y v u Q I a b (h _ _ _ _ q)

structure SR (G : Gs) (cd : Option (Addr × Addr)) (ρ : List Addr) (H : Hp) (σp : Env1) (σ : L2.St) : Prop where
  len : σp.length = σ.length
  code : ∀ p, cd = some p → CodeAt G.xc H p.1 p.2
  at_ : ∀ (i : Nat) (x : PV), σp[i]? = some (some x) → ∃ v, σ[i]? = some (some v) ∧ Rep G.K ρ H x v
theorem SR.mono {G : Gs} {cd : Option (Addr × Addr)} {ρ ρ' : List Addr} {H H' : Hp} {σp : Env1} {σ : L2.St} (e : Ext ρ ρ' H H') (s : SR G cd ρ H σp σ) : SR G cd ρ' H' σp σ :=
  ⟨s.len, fun p h => ⟨e.keep _ _ (s.code p h).1 (.inl trivial) (fun _ z => nomatch z), (s.code p h).2⟩, fun i x h => let ⟨v, h1, h2⟩ := s.at_ i x h; ⟨v, h1, h2.mono e⟩⟩
theorem SR.sub {G : Gs} {cd : Option (Addr × Addr)} {ρ ρ' : List Addr} {H H' : Hp} {σp : Env1} {σ : L2.St} (e : Sub ρ ρ' H H') (s : SR G cd ρ H σp σ) : SR G cd ρ' H' σp σ :=
  ⟨s.len, fun p h => ⟨e.ext _ _ (s.code p h).1, (s.code p h).2⟩, fun i x h => let ⟨v, h1, h2⟩ := s.at_ i x h; ⟨v, h1, h2.sub e⟩⟩
theorem SR.set {G : Gs} {cd : Option (Addr × Addr)} {ρ : List Addr} {H : Hp} {σp : Env1} {σ : L2.St} {x : PV} {v : V} (s : SR G cd ρ H σp σ) (r : Rep G.K ρ H x v) (i : Nat) : SR G cd ρ H (σp.set i (some x)) (σ.set i (some v)) := by
  refine ⟨by simp [s.len], s.code, fun j y h => ?_⟩
  by_cases e : j = i
  · subst e
    have hj : j < σp.length := by
      have := (List.getElem?_eq_some_iff.mp h).1
      simpa using this
    rw [List.getElem?_set_self hj] at h
    cases h
    exact ⟨v, List.getElem?_set_self (by rw [← s.len]; exact hj), r⟩
  · rw [List.getElem?_set_ne (Ne.symm e)] at h
    obtain ⟨w, h1, h2⟩ := s.at_ j y h
    exact ⟨w, by rw [List.getElem?_set_ne (Ne.symm e)]; exact h1, h2⟩
theorem SR.wipe {G : Gs} {cd : Option (Addr × Addr)} {ρ : List Addr} {H : Hp} {σp : Env1} {σ : L2.St} (s : SR G cd ρ H σp σ) : ∀ own : List Nat, SR G cd ρ H (wipeP σp own) (wipe σ own)
  | [] => s
  | i :: own => by
    have r := SR.wipe s own
    refine ⟨by simp [wipeP, L2.wipe, r.len], s.code, fun j y h => ?_⟩
    unfold wipeP at h
    unfold L2.wipe
    by_cases e : j = i
    · subst e
      have hj : j < (wipeP σp own).length := by
        have := (List.getElem?_eq_some_iff.mp h).1
        simpa using this
      rw [List.getElem?_set_self hj] at h
      cases h
    · rw [List.getElem?_set_ne (Ne.symm e)] at h
      obtain ⟨w, h1, h2⟩ := r.at_ j y h
      exact ⟨w, by rw [List.getElem?_set_ne (Ne.symm e)]; exact h1, h2⟩

/-- what is wanted of a value, from what it is to be -/
def Go (G : Gs) (ρ : List Addr) (H : Hp) (h' : AH) (v : PV) (Q : VK) : Prop := ∀ u H' ρ', Ext ρ ρ' H H' → Wf G ρ' h' H' → Rep G.K ρ' H' v u → Q u H'
theorem Go.mono {G : Gs} {ρ ρ' : List Addr} {H H' : Hp} {h' : AH} {v : PV} {Q : VK} (e : Ext ρ ρ' H H') (g : Go G ρ H h' v Q) : Go G ρ' H' h' v Q := fun u H2 ρ2 e2 w r => g u H2 ρ2 (e.trans e2) w r
def GoB (G : Gs) (ρ : List Addr) (H : Hp) (h' : AH) (b : Bool) (Q : Bool → Hp → Prop) : Prop := ∀ H' ρ', Ext ρ ρ' H H' → Wf G ρ' h' H' → Q b H'
theorem GoB.mono {G : Gs} {ρ ρ' : List Addr} {H H' : Hp} {h' : AH} {v : Bool} {Q : Bool → Hp → Prop} (e : Ext ρ ρ' H H') (g : GoB G ρ H h' v Q) : GoB G ρ' H' h' v Q := fun H2 ρ2 e2 w => g H2 ρ2 (e.trans e2) w

def rdR (G : Gs) (cd : Option (Addr × Addr)) (f : Env1 → AH → Res PV) : TE := fun σ H Q => ∃ ρ σp h v h', SR G cd ρ H σp σ ∧ Wf G ρ h H ∧ f σp h = some (v, h') ∧ Go G ρ H h' v Q
def rdL (G : Gs) (cd : Option (Addr × Addr)) (f : Env1 → AH → Res (List PV)) : TA := fun σ H Q => ∃ ρ σp h xs h', SR G cd ρ H σp σ ∧ Wf G ρ h H ∧ f σp h = some (xs, h') ∧
  ∀ us H' ρ', Ext ρ ρ' H H' → Wf G ρ' h' H' → Reps G.K ρ' H' xs us → Q us H'
def rdT (G : Gs) (cd : Option (Addr × Addr)) (f : Env1 → AH → Res PV) : TT := fun σ H Q => ∃ ρ σp h b h', SR G cd ρ H σp σ ∧ Wf G ρ h H ∧ tst (f σp h) = some (b, h') ∧ GoB G ρ H h' b Q
def rd2 (G : Gs) (f : PV → PV → AH → Res PV) : R2 := fun x' y' H Q => ∃ ρ x y h v h', Rep G.K ρ H x x' ∧ Rep G.K ρ H y y' ∧ Wf G ρ h H ∧ f x y h = some (v, h') ∧ Go G ρ H h' v Q
abbrev pcmpR (o : COp) : PV → PV → AH → Res PV := fun x y h => (pcmp o x y h).map fun r => (.bl r, h)

theorem SZ_eq : SZ = sizeLine := by rw [sizeLine_eq]; rfl
/-- the value as it stands -/
theorem Go.here {G : Gs} {ρ : List Addr} {H : Hp} {h : AH} {v : PV} {u : V} {Q : VK} (g : Go G ρ H h v Q) (w : Wf G ρ h H) (r : Rep G.K ρ H v u) : Q u H := g u H ρ Ext.refl w r
theorem Go.newTup {G : Gs} {ρ : List Addr} {H : Hp} {h : AH} {xs : List PV} {vs : List V} {Q : VK} (g : Go G ρ H h (.tup xs) Q) (w : Wf G ρ h H) (r : Reps G.K ρ H xs vs) : NewT H vs Q := fun p o hp ho =>
  g _ _ ρ (Ext.new hp) (w.new hp) (.tup (.inl ⟨o, upd_same, ho⟩) (r.mono (Ext.new hp)))
theorem Go.newLst {G : Gs} {ρ : List Addr} {H : Hp} {h : AH} {xs : List PV} {vs : List V} {Q : VK} {p : Addr} (g : Go G ρ H (h ++ [.lst xs]) (.ref h.length) Q) (w : Wf G ρ h H) (r : Reps G.K ρ H xs vs) (hp : H p = none) : Q (.ref p) (upd H p (.lst vs)) :=
  g _ _ (ρ ++ [p]) (Ext.obj hp) (w.add hp ⟨vs, upd_same, r.mono (Ext.obj hp)⟩) (.ref (by rw [← w.len, List.getElem?_append_right (Nat.le_refl _)]; simp))
theorem Go.newDk {G : Gs} {ρ : List Addr} {H : Hp} {h : AH} {xs : List (KeyP × PV)} {vs : List (Key × V)} {Q : VK} {p : Addr} (g : Go G ρ H (h ++ [.dk xs]) (.ref h.length) Q) (w : Wf G ρ h H) (r : KReps G.K ρ H xs vs) (hp : H p = none) : Q (.ref p) (upd H p (.dK vs)) :=
  g _ _ (ρ ++ [p]) (Ext.obj hp) (w.add hp ⟨vs, upd_same, r.mono (Ext.obj hp)⟩) (.ref (by rw [← w.len, List.getElem?_append_right (Nat.le_refl _)]; simp))
theorem alloc_eq {o : AO} {h h' : AH} {v : PV} (e : alloc o h = some (v, h')) : v = .ref h.length ∧ h' = h ++ [o] := by
  unfold alloc at e
  have := Option.some.inj e
  exact ⟨(congrArg Prod.fst this).symm, (congrArg Prod.snd this).symm⟩

/-- a place of ours -/
theorem Wf.at_ {G : Gs} {ρ : List Addr} {h : AH} {H : Hp} {l : Nat} {o : AO} {a : Addr} (w : Wf G ρ h H) (hl : h[l]? = some o) (ha : ρ[l]? = some a) : ORep G ρ H o a := w.obj l o a hl ha
theorem seq_rep {G : Gs} {ρ : List Addr} {h : AH} {H : Hp} {x : PV} {x' : V} {xs : List PV} (w : Wf G ρ h H) (r : Rep G.K ρ H x x') (e : seqOf x h = some xs) :
    ∃ a vs, x' = .ref a ∧ Reps G.K ρ H xs vs ∧ (SqL G.K H a vs ∨ SqT G.K H a vs) := by
  cases r with
  | tup hq rs => cases e; exact ⟨_, _, rfl, rs, .inr hq.sq⟩
  | lis hq rs => cases e; exact ⟨_, _, rfl, rs, .inl hq.sq⟩
  | ref ha =>
    rename_i l a
    have e : (match h[l]? with | some (AO.lst xs) => some xs | some (AO.scr xs) => some xs | _ => none) = some xs := e
    cases q : h[l]? with
    | none => rw [q] at e; cases e
    | some o =>
      rw [q] at e
      obtain z := w.obj _ _ _ q ha
      cases o with
      | lst ys => cases e; obtain ⟨vs, h1, h2⟩ := z; exact ⟨_, _, rfl, h2, .inl (SqL.of h1)⟩
      | scr ys => cases e; obtain ⟨vs, h1, h2⟩ := z; exact ⟨_, _, rfl, h2, .inl h1.sq⟩
      | dk ys => cases e
      | ins c ys => cases e
  | non => have e : (none : Option (List PV)) = some xs := e; cases e
  | bl b => have e : (none : Option (List PV)) = some xs := e; cases e
  | int i => have e : (none : Option (List PV)) = some xs := e; cases e
  | str s => have e : (none : Option (List PV)) = some xs := e; cases e

/-! ### operators -/
section
variable {X : Cx} {G : Gs} {cd : Option (Addr × Addr)}
theorem Rep.int_of {K : PySem.W.Frag} {ρ : List Addr} {H : Hp} {i : Int} {v : V} (r : Rep K ρ H (.int i) v) : v = .int i := by cases r; rfl
theorem Rep.str_of {K : PySem.W.Frag} {ρ : List Addr} {H : Hp} {i : Sg} {v : V} (r : Rep K ρ H (.str i) v) : v = .str (toS i) := by cases r; rfl
theorem Rep.bl_of {K : PySem.W.Frag} {ρ : List Addr} {H : Hp} {i : Bool} {v : V} (r : Rep K ρ H (.bl i) v) : v = .bl i := by cases r; rfl
theorem Rep.non_of {K : PySem.W.Frag} {ρ : List Addr} {H : Hp} {v : V} (r : Rep K ρ H .non v) : v = .non := by cases r; rfl
theorem toS_length (s : Sg) : (toS s).length = s.length := by simp [toS, Str.length]
theorem toS_append (a b : Sg) : toS a ++ toS b = toS (a ++ b) := by
  show (⟨_⟩ : Str) = _
  simp [toS]
def opOf : BOp → Operator
  | .add => .Add | .sub => .Sub | .mul => .Mult | .mod => .Mod | .fdiv => .FloorDiv | .pow => .Pow
theorem ite_some {α : Type} {c : Prop} [Decidable c] {a : Option α} {b : α} (h : (if c then a else none) = some b) : c ∧ a = some b := by
  split at h
  · exact ⟨‹_›, h⟩
  · cases h
theorem lst_at {ρ : List Addr} {h : AH} {H : Hp} {l : Nat} {a : Addr} {xs : List PV} (w : Wf G ρ h H) (ha : ρ[l]? = some a) (e : h[l]? = some (.lst xs)) : ∃ vs, H a = some (.lst vs) ∧ Reps G.K ρ H xs vs := w.obj _ _ _ e ha
theorem bin_ok (o : BOp) (hK : X.K = G.K) : OpR X (binaryOp (opOf o)) (rd2 G (pbin o)) := by
  cases o with
  | sub =>
    refine OpR.imp op_sub fun x' y' H Q ⟨ρ, x, y, h, v, h', rx, ry, w, e, g⟩ => ?_
    cases x <;> cases y <;> simp only [pbin, reduceCtorEq, Option.some.injEq, Prod.mk.injEq] at e
    obtain ⟨rfl, rfl⟩ := e
    exact ⟨_, _, rx.int_of, ry.int_of, g.here w (.int _)⟩
  | mul =>
    refine OpR.imp op_mul fun x' y' H Q ⟨ρ, x, y, h, v, h', rx, ry, w, e, g⟩ => ?_
    cases x <;> cases y <;> simp only [pbin, reduceCtorEq] at e
    rename_i i j
    obtain ⟨c, e⟩ := ite_some e
    cases e
    refine ⟨_, _, rx.int_of, ry.int_of, ?_, g.here w (.int _)⟩
    simp only [small, Bool.or_eq_true, decide_eq_true_eq] at c
    exact c
  | mod =>
    refine OpR.imp op_modN fun x' y' H Q ⟨ρ, x, y, h, v, h', rx, ry, w, e, g⟩ => ?_
    cases x <;> cases y <;> simp only [pbin, reduceCtorEq] at e
    rename_i i j
    by_cases c : j = 0
    · subst c; simp at e
    · have c' : (j == 0) = false := by simpa using c
      rw [c'] at e
      cases e
      exact ⟨_, _, rx.int_of, ry.int_of, c, g.here w (.int _)⟩
  | fdiv =>
    refine OpR.imp op_fdivN fun x' y' H Q ⟨ρ, x, y, h, v, h', rx, ry, w, e, g⟩ => ?_
    cases x <;> cases y <;> simp only [pbin, reduceCtorEq] at e
    obtain ⟨c, e⟩ := ite_some e
    cases e
    exact ⟨_, _, rx.int_of, ry.int_of, by simpa [CDivN, CPow] using c, g.here w (.int _)⟩
  | pow =>
    refine OpR.imp op_pow fun x' y' H Q ⟨ρ, x, y, h, v, h', rx, ry, w, e, g⟩ => ?_
    cases x <;> cases y <;> simp only [pbin, reduceCtorEq] at e
    obtain ⟨c, e⟩ := ite_some e
    cases e
    exact ⟨_, _, rx.int_of, ry.int_of, by simpa [CDivN, CPow] using c, g.here w (.int _)⟩
  | add =>
    intro pins s σ H x' y' v' u' Q I r1 r2 ⟨ρ, x, y, h, v, h', rx, ry, w, e, g⟩
    cases x <;> cases y <;> simp only [pbin, reduceCtorEq] at e
    · cases e
      exact op_add pins s σ H x' y' v' u' Q I r1 r2 ⟨_, _, rx.int_of, ry.int_of, g.here w (.int _)⟩
    · obtain ⟨c, e⟩ := ite_some e
      cases e
      refine op_add_str pins s σ H x' y' v' u' Q I r1 r2 ⟨_, _, rx.str_of, ry.str_of, ?_, ?_⟩
      · rw [toS_length, toS_length, ← SZ_eq]; exact c
      · rw [toS_append]; exact g.here w (.str _)
    · obtain ⟨c, e⟩ := ite_some e
      cases e
      cases rx with
      | tup hx rx =>
        cases ry with
        | tup hy ry =>
          refine op_catP pins s σ H _ _ v' u' Q I r1 r2 ⟨_, _, _, _, rfl, rfl, hK ▸ hx.sq, hK ▸ hy.sq, ?_, fun q => ?_, fun q' => ?_, ?_⟩
          · rw [← rx.length, ← ry.length, ← SZ_eq]; exact c
          · subst q; cases rx; exact g.here w (.tup hy ry)
          · subst q'; cases ry; rw [List.append_nil] at g; exact g.here w (.tup hx rx)
          · exact g.newTup w (rx.append ry)
    · rename_i a b
      cases qa : h[a]? with
      | none => rw [qa] at e; cases e
      | some oa =>
        cases qb : h[b]? with
        | none => rw [qa, qb] at e; cases oa <;> cases e
        | some ob =>
          rw [qa, qb] at e
          cases oa <;> cases ob <;> try cases e
          obtain ⟨c, e⟩ := ite_some e
          obtain ⟨rfl, rfl⟩ := alloc_eq e
          cases rx with
          | ref hx =>
            cases ry with
            | ref hy =>
              obtain ⟨xs, h1, rx⟩ := lst_at w hx qa
              obtain ⟨ys, h2, ry⟩ := lst_at w hy qb
              refine op_cat pins s σ H _ _ v' u' Q I r1 r2 ⟨_, _, _, _, rfl, rfl, h1, h2, ?_, fun p hp => ?_⟩
              · rw [← rx.length, ← ry.length, ← SZ_eq]; exact c
              · exact g.newLst w (rx.append ry) hp
/-- comparisons -/
def cmpOf : COp → CmpOp
  | .eq => .Eq | .ne => .NotEq | .lt => .Lt | .le => .LtE | .gt => .Gt | .ge => .GtE | .is => .Is | .isnot => .IsNot | .in_ => .In | .notin => .NotIn
theorem sgEq_eq (a b : Sg) : sgEq a b = decide (toS a = toS b) := by
  unfold sgEq
  by_cases h : a = b
  · subst h; simp
  · rw [decide_eq_false h, decide_eq_false fun q => h (toS_inj q)]
theorem scal_rep {K : PySem.W.Frag} {ρ : List Addr} {H : Hp} {x y : PV} {x' y' : V} {b : Bool} (rx : Rep K ρ H x x') (ry : Rep K ρ H y y') (e : scalEq x y = some b) : scal x' y' = true ∧ decide (x' = y') = b := by
  cases rx <;> cases ry <;> simp only [scalEq, reduceCtorEq, Option.some.injEq] at e <;> subst e <;>
    first | exact ⟨rfl, rfl⟩ | (refine ⟨rfl, ?_⟩; rw [sgEq_eq]; simp only [V.str.injEq]; done) | (refine ⟨rfl, ?_⟩; simp; done)
theorem flat_rep {K : PySem.W.Frag} {ρ : List Addr} {H : Hp} {x : PV} {x' : V} (rx : Rep K ρ H x x') (f : isFlat x = true) : flatV x' = true := by
  cases rx <;> first | rfl | cases f
theorem flats_rep {K : PySem.W.Frag} {ρ : List Addr} {H : Hp} : ∀ {xs : List PV} {vs : List V}, Reps K ρ H xs vs → xs.all isFlat = true → vs.all flatV = true
  | _, _, .nil, _ => rfl
  | _, _, .cons a r, f => by
    simp only [List.all_cons, Bool.and_eq_true] at f ⊢
    exact ⟨flat_rep a f.1, flats_rep r f.2⟩
theorem flatEq_rep {K : PySem.W.Frag} {ρ : List Addr} {H : Hp} {x y : PV} {x' y' : V} (rx : Rep K ρ H x x') (ry : Rep K ρ H y y') (fx : isFlat x = true) (fy : isFlat y = true) : eqV x' y' = flatEq x y := by
  cases rx <;> cases ry <;> first | rfl | (simp only [eqV, flatEq, sgEq_eq]; exact Bool.beq_eq_decide_eq _ _) | (simp only [eqV, flatEq, sgEq_eq]; rw [Bool.eq_iff_iff]; simp) | cases fx | cases fy
theorem inP_rep {K : PySem.W.Frag} {ρ : List Addr} {H : Hp} {x : PV} {x' : V} (rx : Rep K ρ H x x') (fx : isFlat x = true) : ∀ {xs : List PV} {vs : List V}, Reps K ρ H xs vs → xs.all isFlat = true → inV x' vs = inP x xs
  | _, _, .nil, _ => rfl
  | _, _, .cons a r, f => by
    simp only [List.all_cons, Bool.and_eq_true] at f
    have ih := inP_rep rx fx r f.2
    unfold inV inP at *
    rw [List.any_cons, List.any_cons, ih, flatEq_rep a rx f.1 fx]
theorem cmp_ok (o : COp) (hK : X.K = G.K) : OpR X (compareOp (cmpOf o)) (rd2 G (pcmpR o)) := by
  have key : ∀ {H : Hp} {Q : VK} {ρ : List Addr} {h h' : AH} {x y v : PV}, Wf G ρ h H → (pcmp o x y h).map (fun r => (PV.bl r, h)) = some (v, h') → Go G ρ H h' v Q → ∃ b, pcmp o x y h = some b ∧ Q (.bl b) H := by
    intro H Q ρ h h' x y v w e g
    cases q : pcmp o x y h with
    | none => rw [q] at e; cases e
    | some b => rw [q] at e; cases e; exact ⟨b, rfl, g.here w (.bl _)⟩
  cases o with
  | eq =>
    refine OpR.imp op_eq fun x' y' H Q ⟨ρ, x, y, h, v, h', rx, ry, w, e, g⟩ => ?_
    obtain ⟨b, q, hQ⟩ := key w e g
    obtain ⟨h1, h2⟩ := scal_rep rx ry q
    exact ⟨h1, by rw [h2]; exact hQ⟩
  | ne =>
    refine OpR.imp op_ne fun x' y' H Q ⟨ρ, x, y, h, v, h', rx, ry, w, e, g⟩ => ?_
    obtain ⟨b, q, hQ⟩ := key w e g
    have q : (scalEq x y).map (!·) = some b := q
    cases z : scalEq x y with
    | none => rw [z] at q; cases q
    | some c =>
      rw [z] at q; cases q
      obtain ⟨h1, h2⟩ := scal_rep rx ry z
      exact ⟨h1, by rw [h2]; exact hQ⟩
  | lt =>
    refine OpR.imp op_lt fun x' y' H Q ⟨ρ, x, y, h, v, h', rx, ry, w, e, g⟩ => ?_
    obtain ⟨b, q, hQ⟩ := key w e g
    cases x <;> cases y <;> simp only [pcmp, reduceCtorEq, Option.some.injEq] at q
    subst q
    exact ⟨_, _, rx.int_of, ry.int_of, hQ⟩
  | le =>
    refine OpR.imp op_le fun x' y' H Q ⟨ρ, x, y, h, v, h', rx, ry, w, e, g⟩ => ?_
    obtain ⟨b, q, hQ⟩ := key w e g
    cases x <;> cases y <;> simp only [pcmp, reduceCtorEq, Option.some.injEq] at q
    subst q
    exact ⟨_, _, rx.int_of, ry.int_of, hQ⟩
  | gt =>
    refine OpR.imp op_gt fun x' y' H Q ⟨ρ, x, y, h, v, h', rx, ry, w, e, g⟩ => ?_
    obtain ⟨b, q, hQ⟩ := key w e g
    cases x <;> cases y <;> simp only [pcmp, reduceCtorEq, Option.some.injEq] at q
    subst q
    exact ⟨_, _, rx.int_of, ry.int_of, hQ⟩
  | ge =>
    refine OpR.imp op_ge fun x' y' H Q ⟨ρ, x, y, h, v, h', rx, ry, w, e, g⟩ => ?_
    obtain ⟨b, q, hQ⟩ := key w e g
    cases x <;> cases y <;> simp only [pcmp, reduceCtorEq, Option.some.injEq] at q
    subst q
    exact ⟨_, _, rx.int_of, ry.int_of, hQ⟩
  | is =>
    refine OpR.imp op_isN fun x' y' H Q ⟨ρ, x, y, h, v, h', rx, ry, w, e, g⟩ => ?_
    obtain ⟨b, q, hQ⟩ := key w e g
    cases y <;> simp only [pcmp, reduceCtorEq, Option.some.injEq] at q
    refine ⟨ry.non_of, ?_⟩
    cases rx <;> (subst q; exact hQ)
  | isnot =>
    refine OpR.imp op_notN fun x' y' H Q ⟨ρ, x, y, h, v, h', rx, ry, w, e, g⟩ => ?_
    obtain ⟨b, q, hQ⟩ := key w e g
    cases y <;> simp only [pcmp, reduceCtorEq, Option.some.injEq] at q
    refine ⟨ry.non_of, ?_⟩
    cases rx <;> (subst q; exact hQ)
  | in_ =>
    refine OpR.imp op_in_seq fun x' y' H Q ⟨ρ, x, y, h, v, h', rx, ry, w, e, g⟩ => ?_
    obtain ⟨b, q, hQ⟩ := key w e g
    simp only [pcmp] at q
    cases z : seqOf y h with
    | none => rw [z] at q; cases q
    | some ys =>
      rw [z] at q
      obtain ⟨c, q⟩ := ite_some q
      rw [Bool.and_eq_true] at c
      obtain ⟨a, vs, rfl, rs, sq⟩ := seq_rep w ry z
      refine ⟨a, vs, rfl, hK ▸ sq, flat_rep rx c.1, flats_rep rs c.2, ?_⟩
      rw [inP_rep rx c.1 rs c.2]
      cases q
      exact hQ
  | notin =>
    refine OpR.imp op_notIn_seq fun x' y' H Q ⟨ρ, x, y, h, v, h', rx, ry, w, e, g⟩ => ?_
    obtain ⟨b, q, hQ⟩ := key w e g
    simp only [pcmp] at q
    cases z : seqOf y h with
    | none => rw [z] at q; cases q
    | some ys =>
      rw [z] at q
      obtain ⟨c, q⟩ := ite_some q
      rw [Bool.and_eq_true] at c
      obtain ⟨a, vs, rfl, rs, sq⟩ := seq_rep w ry z
      refine ⟨a, vs, rfl, hK ▸ sq, flat_rep rx c.1, flats_rep rs c.2, ?_⟩
      rw [inP_rep rx c.1 rs c.2]
      cases q
      exact hQ
end
end Mi
set_option Elab.async false
set_option linter.all false
set_option maxRecDepth 100000
set_option maxHeartbeats 2000000
/-! Mi E: expressions, one by one -/
namespace Mi
open PySem PySem.Spec PyProof.Rows L2

section
variable {X : Cx} {G : Gs} {cd : Option (Addr × Addr)} {P : Pg} {cl : Cl}
abbrev RE (G : Gs) (cd : Option (Addr × Addr)) (P : Pg) (cl : Cl) (e : E) : TE := rdR G cd (evE P cl e)
abbrev RT (G : Gs) (cd : Option (Addr × Addr)) (P : Pg) (cl : Cl) (e : E) : TT := rdT G cd (evE P cl e)
abbrev RL (G : Gs) (cd : Option (Addr × Addr)) (P : Pg) (cl : Cl) (e : E) : TA := rdL G cd (evL P cl e)

/-- a constant -/
theorem rd_const {e : E} {x : Expr} {v : PV} {u : V} (h : PE X x (tC u)) (he : ∀ σ h, evE P cl e σ h = some (v, h)) (hr : ∀ ρ H, Rep G.K ρ H v u) : PE X x (RE G cd P cl e) :=
  h.imp fun σ H Q ⟨ρ, σp, hp, w, h', sr, wf, ev, g⟩ => by
    rw [he] at ev; cases ev
    exact g.here wf (hr ρ H)
theorem rd_var {i : Nat} {x : Expr} (h : PE X x (tVar i)) : PE X x (RE G cd P cl (.var i)) :=
  h.imp fun σ H Q ⟨ρ, σp, hp, w, h', sr, wf, ev, g⟩ => by
    unfold evE at ev
    split at ev
    · rename_i v q
      cases ev
      obtain ⟨u, h1, h2⟩ := sr.at_ i _ q
      exact ⟨u, h1, g.here wf h2⟩
    · cases ev
theorem rd_tup {a : E} {es : List Expr} {k pos} (h : PA X es (RL G cd P cl a)) : PE X (.Tuple es k pos) (RE G cd P cl (.tup a)) :=
  (pe_tupP h).imp fun σ H Q ⟨ρ, σp, hp, w, h', sr, wf, ev, g⟩ => by
    unfold evE at ev
    split at ev
    · rename_i xs h1 q
      obtain ⟨z, ev⟩ := ite_some ev
      cases ev
      refine ⟨ρ, σp, hp, xs, h', sr, wf, q, fun us H1 ρ1 e1 w1 r1 => ⟨?_, (g.mono e1).newTup w1 r1⟩⟩
      rw [← r1.length, ← SZ_eq]; exact z
    · cases ev
theorem rd_lst {a : E} {es : List Expr} {pos} (h : PA X es (RL G cd P cl a)) : PE X (.List es pos) (RE G cd P cl (.lst a)) :=
  (pe_lst h).imp fun σ H Q ⟨ρ, σp, hp, w, h', sr, wf, ev, g⟩ => by
    unfold evE at ev
    split at ev
    · rename_i xs h1 q
      obtain ⟨z, ev⟩ := ite_some ev
      obtain ⟨rfl, rfl⟩ := alloc_eq ev
      refine ⟨ρ, σp, hp, xs, _, sr, wf, q, fun us H1 ρ1 e1 w1 r1 => ⟨?_, fun p hp => (g.mono e1).newLst w1 r1 hp⟩⟩
      rw [← r1.length, ← SZ_eq]; exact z
    · cases ev
theorem rd_op {a b c : E} {ea eb : Expr} {op : Operator} {pos} {f : PV → PV → AH → Res PV} (ho : OpR X (binaryOp op) (rd2 G f)) (ha : PE X ea (RE G cd P cl a)) (hb : PE X eb (RE G cd P cl b))
    (hc : ∀ σ h r, evE P cl c σ h = some r → ∃ x h1 y h2, evE P cl a σ h = some (x, h1) ∧ evE P cl b σ h1 = some (y, h2) ∧ f x y h2 = some r) : PE X (.BinOp ea op eb pos) (RE G cd P cl c) :=
  (pe_op ho ha hb).imp fun σ H Q ⟨ρ, σp, hp, w, h', sr, wf, ev, g⟩ => by
    obtain ⟨x, h1, y, h2, e1, e2, e3⟩ := hc _ _ _ ev
    refine ⟨ρ, σp, hp, x, h1, sr, wf, e1, fun u1 H1 ρ1 x1 w1 r1 => ⟨ρ1, σp, h1, y, h2, sr.mono x1, w1, e2, fun u2 H2 ρ2 x2 w2 r2 => ?_⟩⟩
    exact ⟨ρ2, x, y, h2, w, h', r1.mono x2, r2, w2, e3, g.mono (x1.trans x2)⟩
theorem rd_bin {a b : E} {ea eb : Expr} {o : BOp} {pos} (hK : X.K = G.K) (ha : PE X ea (RE G cd P cl a)) (hb : PE X eb (RE G cd P cl b)) : PE X (.BinOp ea (opOf o) eb pos) (RE G cd P cl (.bin o a b)) :=
  rd_op (bin_ok o hK) ha hb fun σ h r e => by
    unfold evE at e
    split at e
    · split at e
      · exact ⟨_, _, _, _, ‹_›, ‹_›, e⟩
      · cases e
    · cases e
theorem rd_neg {a : E} {ea : Expr} {pos} (ha : PE X ea (RE G cd P cl a)) : PE X (.UnaryOp .USub ea pos) (RE G cd P cl (.neg a)) :=
  (pe_un un_neg ha).imp fun σ H Q ⟨ρ, σp, hp, w, h', sr, wf, ev, g⟩ => by
    unfold evE at ev
    split at ev
    · rename_i i h1 q
      cases ev
      exact ⟨ρ, σp, hp, _, _, sr, wf, q, fun u1 H1 ρ1 x1 w1 r1 => ⟨i, r1.int_of, (g.mono x1).here w1 (.int _)⟩⟩
    · cases ev
theorem cmp_split {a b : E} {o : COp} {σ : Env1} {h : AH} {r : PV × AH} (e : evE P cl (.cmp o a b) σ h = some r) : ∃ x h1 y h2, evE P cl a σ h = some (x, h1) ∧ evE P cl b σ h1 = some (y, h2) ∧ pcmpR o x y h2 = some r := by
  unfold evE at e
  split at e
  · split at e
    · exact ⟨_, _, _, _, ‹_›, ‹_›, e⟩
    · cases e
  · cases e
theorem rd_cmp {a b : E} {ea eb : Expr} {o : COp} {pos} (hK : X.K = G.K) (hm : behindInMarks (cmpOf o) eb = false) (ha : PE X ea (RE G cd P cl a)) (hb : PE X eb (RE G cd P cl b)) : PE X (.Compare ea [cmpOf o] [eb] pos) (RE G cd P cl (.cmp o a b)) :=
  (pe_cmpR (cmp_ok o hK) ha hb hm).imp fun σ H Q ⟨ρ, σp, hp, w, h', sr, wf, ev, g⟩ => by
    obtain ⟨x, h1, y, h2, e1, e2, e3⟩ := cmp_split ev
    refine ⟨ρ, σp, hp, x, h1, sr, wf, e1, fun u1 H1 ρ1 x1 w1 r1 => ⟨ρ1, σp, h1, y, h2, sr.mono x1, w1, e2, fun u2 H2 ρ2 x2 w2 r2 => ?_⟩⟩
    exact ⟨ρ2, x, y, h2, w, h', r1.mono x2, r2, w2, e3, g.mono (x1.trans x2)⟩
/-- what a test of a value is -/
theorem tst_some {r : Res PV} {b : Bool} {h : AH} (e : tst r = some (b, h)) : ∃ x, r = some (x, h) ∧ truth x h = some b := by
  unfold tst at e
  split at e
  · rename_i x h1
    cases q : truth x h1 with
    | none => rw [q] at e; cases e
    | some c => rw [q] at e; cases e; exact ⟨x, rfl, q⟩
  · cases e
theorem tru_rep {ρ : List Addr} {h : AH} {H : Hp} {x : PV} {x' : V} {b : Bool} (w : Wf G ρ h H) (r : Rep G.K ρ H x x') (e : truth x h = some b) : TruV G.K x' H b := by
  cases r with
  | non => cases e; rfl
  | bl c => cases e; rfl
  | int i => cases e; rfl
  | str s =>
    have e : (if s.length ≤ SZ then some ((s.length : Int) != 0) else none) = some b := e
    obtain ⟨z, e⟩ := ite_some e
    cases e
    exact ⟨by rw [toS_length, ← SZ_eq]; exact z, by rw [toS_length]⟩
  | tup hq rs =>
    rename_i a vs xs
    have e : some (!xs.isEmpty) = some b := e
    cases e
    refine .inr (.inl ⟨vs, hq.sq, ?_⟩)
    cases rs <;> rfl
  | lis hq rs => cases e
  | ref ha =>
    rename_i l a
    have e : (match h[l]? with | some (AO.lst xs) => some (!xs.isEmpty) | some (AO.scr xs) => some (!xs.isEmpty) | some (AO.dk kvs) => some (!kvs.isEmpty) | _ => none) = some b := e
    cases q : h[l]? with
    | none => rw [q] at e; cases e
    | some o =>
      rw [q] at e
      have z := w.obj _ _ _ q ha
      cases o with
      | lst ys => cases e; obtain ⟨vs, h1, h2⟩ := z; exact .inl ⟨vs, SqL.of h1, by cases h2 <;> rfl⟩
      | scr ys => cases e; obtain ⟨vs, h1, h2⟩ := z; exact .inl ⟨vs, h1.sq, by cases h2 <;> rfl⟩
      | dk ys => cases e; obtain ⟨vs, h1, h2⟩ := z; exact .inr (.inr ⟨vs, h1, by cases h2 <;> rfl⟩)
      | ins c ys => cases e
/-- a value as a test -/
theorem rt_val {a : E} {ea : Expr} (hK : X.K = G.K) (ha : PE X ea (RE G cd P cl a)) (he : ∀ whole, isTrue ea X.env whole = (do let v ← whole; standAt ea.pos; holding [v] (truthy v))) : PT X ea (RT G cd P cl a) :=
  (pt_truth ha he).imp fun σ H Q ⟨ρ, σp, hp, b, h', sr, wf, ev, g⟩ => by
    obtain ⟨x, e1, e2⟩ := tst_some ev
    exact ⟨ρ, σp, hp, x, h', sr, wf, e1, fun u1 H1 ρ1 x1 w1 r1 => ⟨b, by rw [hK]; exact tru_rep w1 r1 e2, g H1 ρ1 x1 w1⟩⟩
theorem pcmpR_bl {o : COp} {x y v : PV} {h h' : AH} (e : pcmpR o x y h = some (v, h')) : ∃ b, v = .bl b ∧ h' = h := by
  unfold pcmpR at e
  cases q : pcmp o x y h with
  | none => rw [q] at e; cases e
  | some b => rw [q] at e; cases e; exact ⟨b, rfl, rfl⟩
theorem rt_cmp {a b : E} {ea eb : Expr} {o : COp} {pos} (hK : X.K = G.K) (hm : behindInMarks (cmpOf o) eb = false) (ha : PE X ea (RE G cd P cl a)) (hb : PE X eb (RE G cd P cl b)) : PT X (.Compare ea [cmpOf o] [eb] pos) (RT G cd P cl (.cmp o a b)) :=
  (pt_cmpR (cmp_ok o hK) ha hb hm).imp fun σ H Q ⟨ρ, σp, hp, c, h', sr, wf, ev, g⟩ => by
    obtain ⟨v, ev, tv⟩ := tst_some ev
    obtain ⟨x, h1, y, h2, e1, e2, e3⟩ := cmp_split ev
    refine ⟨ρ, σp, hp, x, h1, sr, wf, e1, fun u1 H1 ρ1 x1 w1 r1 => ⟨ρ1, σp, h1, y, h2, sr.mono x1, w1, e2, fun u2 H2 ρ2 x2 w2 r2 => ?_⟩⟩
    refine ⟨ρ2, x, y, h2, v, h', r1.mono x2, r2, w2, e3, fun u3 H3 ρ3 x3 w3 r3 => ?_⟩
    obtain ⟨b, rfl, rfl⟩ := pcmpR_bl e3
    cases tv
    exact ⟨c, r3.bl_of, g H3 ρ3 (x1.trans (x2.trans x3)) w3⟩
theorem rd_not {a : E} {ea : Expr} {pos} (hK : X.K = G.K) (ha : PE X ea (RE G cd P cl a)) : PE X (.UnaryOp .Not ea pos) (RE G cd P cl (.not a)) :=
  (pe_notT ha).imp fun σ H Q ⟨ρ, σp, hp, w, h', sr, wf, ev, g⟩ => by
    unfold evE at ev
    split at ev
    · rename_i x h1 q
      cases z : truth x h1 with
      | none => rw [z] at ev; cases ev
      | some b =>
        rw [z] at ev; cases ev
        exact ⟨ρ, σp, hp, x, _, sr, wf, q, fun u1 H1 ρ1 x1 w1 r1 => ⟨b, by rw [hK]; exact tru_rep w1 r1 z, (g.mono x1).here w1 (.bl _)⟩⟩
    · cases ev
theorem rt_not {a : E} {ea : Expr} {pos} (ha : PT X ea (RT G cd P cl a)) : PT X (.UnaryOp .Not ea pos) (RT G cd P cl (.not a)) :=
  (pt_not ha).imp fun σ H Q ⟨ρ, σp, hp, w, h', sr, wf, ev, g⟩ => by
    obtain ⟨v, ev, tv⟩ := tst_some ev
    unfold evE at ev
    split at ev
    · rename_i x h1 q
      cases z : truth x h1 with
      | none => rw [z] at ev; cases ev
      | some b =>
        rw [z] at ev; cases ev; cases tv
        refine ⟨ρ, σp, hp, b, h', sr, wf, ?_, fun H1 ρ1 x1 w1 => ?_⟩
        · show tst (evE P cl a σp hp) = _
          rw [q]; show (truth x h').map _ = _; rw [z]; rfl
        · exact g H1 ρ1 x1 w1
    · cases ev
theorem and_split {a b : E} {σ : Env1} {h : AH} {r : PV × AH} (e : evE P cl (.and a b) σ h = some r) : ∃ x h1 c, evE P cl a σ h = some (x, h1) ∧ truth x h1 = some c ∧ (if c = true then evE P cl b σ h1 else some (x, h1)) = some r := by
  unfold evE at e
  split at e
  · rename_i x h1 q
    split at e
    · exact ⟨x, h1, true, q, ‹_›, by rw [if_pos rfl]; exact e⟩
    · exact ⟨x, h1, false, q, ‹_›, by rw [if_neg (by decide)]; exact e⟩
    · cases e
  · cases e
theorem or_split {a b : E} {σ : Env1} {h : AH} {r : PV × AH} (e : evE P cl (.or a b) σ h = some r) : ∃ x h1 c, evE P cl a σ h = some (x, h1) ∧ truth x h1 = some c ∧ (if c = true then some (x, h1) else evE P cl b σ h1) = some r := by
  unfold evE at e
  split at e
  · rename_i x h1 q
    split at e
    · exact ⟨x, h1, true, q, ‹_›, by rw [if_pos rfl]; exact e⟩
    · exact ⟨x, h1, false, q, ‹_›, by rw [if_neg (by decide)]; exact e⟩
    · cases e
  · cases e
theorem rd_and {a b : E} {ea eb : Expr} {rest : List Expr} {pos} (hK : X.K = G.K) (ha : PE X ea (RE G cd P cl a)) (hb : PE X (.BoolOp .And (eb :: rest) pos) (RE G cd P cl b)) : PE X (.BoolOp .And (ea :: eb :: rest) pos) (RE G cd P cl (.and a b)) :=
  (pe_andT ha hb).imp fun σ H Q ⟨ρ, σp, hp, w, h', sr, wf, ev, g⟩ => by
    obtain ⟨x, h1, c, e1, e2, e3⟩ := and_split ev
    refine ⟨ρ, σp, hp, x, h1, sr, wf, e1, fun u1 H1 ρ1 x1 w1 r1 => ⟨c, by rw [hK]; exact tru_rep w1 r1 e2, ?_⟩⟩
    cases c with
    | true => exact ⟨ρ1, σp, h1, w, h', sr.mono x1, w1, e3, g.mono x1⟩
    | false => cases e3; exact (g.mono x1).here w1 r1
theorem rd_or {a b : E} {ea eb : Expr} {rest : List Expr} {pos} (hK : X.K = G.K) (ha : PE X ea (RE G cd P cl a)) (hb : PE X (.BoolOp .Or (eb :: rest) pos) (RE G cd P cl b)) : PE X (.BoolOp .Or (ea :: eb :: rest) pos) (RE G cd P cl (.or a b)) :=
  (pe_orT ha hb).imp fun σ H Q ⟨ρ, σp, hp, w, h', sr, wf, ev, g⟩ => by
    obtain ⟨x, h1, c, e1, e2, e3⟩ := or_split ev
    refine ⟨ρ, σp, hp, x, h1, sr, wf, e1, fun u1 H1 ρ1 x1 w1 r1 => ⟨c, by rw [hK]; exact tru_rep w1 r1 e2, ?_⟩⟩
    cases c with
    | true => cases e3; exact (g.mono x1).here w1 r1
    | false => exact ⟨ρ1, σp, h1, w, h', sr.mono x1, w1, e3, g.mono x1⟩
theorem rt_and {a b : E} {ea eb : Expr} {rest : List Expr} {pos} (ha : PT X ea (RT G cd P cl a)) (hb : PW X (.BoolOp .And (eb :: rest) pos) (RT G cd P cl b)) : PW X (.BoolOp .And (ea :: eb :: rest) pos) (RT G cd P cl (.and a b)) := by
  have w := pw_and ha hb
  refine ⟨fun wh pins s σ H Q I h => w.run wh pins s σ H Q I ?_⟩
  obtain ⟨ρ, σp, hp, d, h', sr, wf, ev, g⟩ := h
  obtain ⟨v, ev, tv⟩ := tst_some ev
  obtain ⟨x, h1, c, e1, e2, e3⟩ := and_split ev
  refine ⟨ρ, σp, hp, c, h1, sr, wf, ?_, fun H1 ρ1 x1 w1 => ?_⟩
  · show tst (evE P cl a σp hp) = _; rw [e1]; show (truth x h1).map _ = _; rw [e2]; rfl
  · cases c with
    | true =>
      refine ⟨ρ1, σp, h1, d, h', sr.mono x1, w1, ?_, g.mono x1⟩
      show tst (evE P cl b σp h1) = _
      rw [show evE P cl b σp h1 = some (v, h') from e3]; show (truth v h').map _ = _; rw [tv]; rfl
    | false => cases e3; rw [e2] at tv; cases tv; exact g H1 ρ1 x1 w1
theorem rt_or {a b : E} {ea eb : Expr} {rest : List Expr} {pos} (ha : PT X ea (RT G cd P cl a)) (hb : PW X (.BoolOp .Or (eb :: rest) pos) (RT G cd P cl b)) : PW X (.BoolOp .Or (ea :: eb :: rest) pos) (RT G cd P cl (.or a b)) := by
  have w := pw_or ha hb
  refine ⟨fun wh pins s σ H Q I h => w.run wh pins s σ H Q I ?_⟩
  obtain ⟨ρ, σp, hp, d, h', sr, wf, ev, g⟩ := h
  obtain ⟨v, ev, tv⟩ := tst_some ev
  obtain ⟨x, h1, c, e1, e2, e3⟩ := or_split ev
  refine ⟨ρ, σp, hp, c, h1, sr, wf, ?_, fun H1 ρ1 x1 w1 => ?_⟩
  · show tst (evE P cl a σp hp) = _; rw [e1]; show (truth x h1).map _ = _; rw [e2]; rfl
  · cases c with
    | false =>
      refine ⟨ρ1, σp, h1, d, h', sr.mono x1, w1, ?_, g.mono x1⟩
      show tst (evE P cl b σp h1) = _
      rw [show evE P cl b σp h1 = some (v, h') from e3]; show (truth v h').map _ = _; rw [tv]; rfl
    | true => cases e3; rw [e2] at tv; cases tv; exact g H1 ρ1 x1 w1
theorem rd_ite {c a b : E} {ec ea eb : Expr} {pos} (hc : PT X ec (RT G cd P cl c)) (ha : PE X ea (RE G cd P cl a)) (hb : PE X eb (RE G cd P cl b)) : PE X (.IfExp ec ea eb pos) (RE G cd P cl (.ite c a b)) :=
  (pe_ifExp hc ha hb).imp fun σ H Q ⟨ρ, σp, hp, w, h', sr, wf, ev, g⟩ => by
    unfold evE at ev
    split at ev
    · rename_i x h1 q
      split at ev
      · rename_i z
        refine ⟨ρ, σp, hp, true, h1, sr, wf, ?_, fun H1 ρ1 x1 w1 => ?_⟩
        · show tst (evE P cl c σp hp) = _; rw [q]; show (truth x h1).map _ = _; rw [z]; rfl
        · exact ⟨ρ1, σp, h1, w, h', sr.mono x1, w1, ev, g.mono x1⟩
      · rename_i z
        refine ⟨ρ, σp, hp, false, h1, sr, wf, ?_, fun H1 ρ1 x1 w1 => ?_⟩
        · show tst (evE P cl c σp hp) = _; rw [q]; show (truth x h1).map _ = _; rw [z]; rfl
        · exact ⟨ρ1, σp, h1, w, h', sr.mono x1, w1, ev, g.mono x1⟩
      · cases ev
    · cases ev

/-! ### subscripts -/
abbrev pidxR : PV → PV → AH → Res PV := fun x y h => (pidx x y h).map fun v => (v, h)
theorem toS_cps (s : Sg) : (toS s).cps.toList = s := by simp [toS]
theorem ix_ok (hK : X.K = G.K) : IxR X (rd2 G pidxR) := by
  intro value slice pins s σ H x' y' v u Q I rv ru ⟨ρ, x, y, h, w, h', rx, ry, wf, e, g⟩ hs
  cases q : pidx x y h with
  | none => rw [pidxR, q] at e; cases e
  | some z =>
    rw [pidxR, q] at e; cases e
    have seq : ∀ {i : Int} {xs : List PV}, y = .int i → seqOf x h = some xs → atP xs i = some w → wpAny (model X.prog X.w) X.A (subscriptTail value slice v u) (EP X pins σ Q) X.xe s := by
      intro i xs ey es ea
      subst ey
      obtain ⟨a, vs, rfl, rs, sq⟩ := seq_rep wf rx es
      obtain ⟨z, hz, rz⟩ := rs.at ea
      refine ix_seq value slice pins s σ H _ y' v u Q I rv ru ?_ hs
      rcases sq with sq | sq
      · exact .inl ⟨a, vs, i, z, rfl, ry.int_of, hK ▸ sq, hz, g.here wf rz⟩
      · exact .inr (.inl ⟨a, vs, i, z, rfl, ry.int_of, hK ▸ sq, hz, g.here wf rz⟩)
    cases y with
    | int i =>
      cases x with
      | str t =>
        have q : (if t.length ≤ SZ then (atP t i).map (fun c => PV.str [c]) else none) = some w := q
        obtain ⟨z, q⟩ := ite_some q
        cases q2 : atP t i with
        | none => rw [q2] at q; cases q
        | some c =>
          rw [q2] at q; cases q
          refine ix_str value slice pins s σ H _ y' v u Q I rv ru ⟨toS t, i, c, rx.str_of, ry.int_of, by rw [toS_length, ← SZ_eq]; exact z, ?_, ?_⟩ hs
          · rw [toS_cps]; exact q2
          · exact g.here wf (.str _)
      | tup xs => exact seq rfl rfl q
      | lis xs => exact seq rfl rfl q
      | ref l =>
        cases q3 : seqOf (.ref l) h with
        | none => simp only [pidx, q3] at q; cases q
        | some xs => simp only [pidx, q3] at q; exact seq rfl q3 q
      | non => cases q
      | bl b => cases q
      | int i => cases q
    | _ => cases x <;> cases q
theorem rd_idx {a i : E} {ea ei : Expr} {pos} (hK : X.K = G.K) (hp : PlainIx ei) (ha : PE X ea (RE G cd P cl a)) (hb : PE X ei (RE G cd P cl i)) : PE X (.Subscript ea ei pos) (RE G cd P cl (.idx a i)) :=
  (pe_ix (ix_ok hK) ha hb hp).imp fun σ H Q ⟨ρ, σp, hp, w, h', sr, wf, ev, g⟩ => by
    unfold evE at ev
    split at ev
    · rename_i x h1 e1
      split at ev
      · rename_i y h2 e2
        refine ⟨ρ, σp, hp, x, h1, sr, wf, e1, fun u1 H1 ρ1 x1 w1 r1 => ⟨ρ1, σp, h1, y, h2, sr.mono x1, w1, e2, fun u2 H2 ρ2 x2 w2 r2 => ?_⟩⟩
        exact ⟨ρ2, x, y, h2, w, h', r1.mono x2, r2, w2, ev, g.mono (x1.trans x2)⟩
      · cases ev
    · cases ev
def rdSl (G : Gs) : V → Option Int → Option Int → Hp → VK → Prop := fun x' lo hi H Q => ∃ ρ x h v h', Rep G.K ρ H x x' ∧ Wf G ρ h H ∧ psl x lo hi h = some (v, h') ∧ Go G ρ H h' v Q
theorem cutS_toS (s : Sg) (lo hi : Option Int) : cutS (toS s) lo hi = toS (cutP s lo hi) := by
  unfold cutS cutP
  simp [toS, Str.length]
theorem sl_ok (hK : X.K = G.K) : SlR X (rdSl G) := by
  intro pins s σ H x' v vl vu lo hi sl Q I rv hs pl pu ⟨ρ, x, h, w, h', rx, wf, e, g⟩
  unfold psl at e
  cases x with
  | str t =>
    obtain ⟨z, e⟩ := ite_some e
    cases e
    refine sl_str pins s σ H x' v vl vu lo hi sl Q I rv hs pl pu ⟨toS t, rx.str_of, by rw [toS_length, ← SZ_eq]; exact z, ?_⟩
    rw [cutS_toS]; exact g.here wf (.str _)
  | tup xs =>
    cases e
    cases rx with
    | tup hq rs =>
      refine sl_tupP pins s σ H _ v vl vu lo hi sl Q I rv hs pl pu ⟨_, _, rfl, hK ▸ hq.sq, fun ⟨z1, z2⟩ => ?_, g.newTup wf (rs.cut lo hi)⟩
      have z : cutP xs lo hi = xs := by
        unfold cutP
        rw [rs.length, z1, z2, List.drop_zero, Nat.sub_zero, ← rs.length, List.take_length]
      rw [z] at g
      exact g.here wf (.tup hq rs)
  | ref l =>
    cases rx with
    | ref ha =>
      rename_i a
      have key : ∀ {xs : List PV} {vs : List V}, SqL G.K H a vs → Reps G.K ρ H xs vs → alloc (.lst (cutP xs lo hi)) h = some (w, h') →
          ∃ T id, typeLookup (.type T) "__getitem__" = pure (some (.builtin id)) ∧ s.TypeIs v T ∧ wpAny (model X.prog X.w) X.A (getItem v (.ref sl)) (EP X pins σ Q) X.xe s := fun sq rs e => by
        obtain ⟨rfl, rfl⟩ := alloc_eq e
        exact sl_list pins s σ H _ v vl vu lo hi sl Q I rv hs pl pu ⟨_, _, rfl, hK ▸ sq, fun p hp => g.newLst wf (rs.cut lo hi) hp⟩
      cases q : h[l]? with
      | none => simp only [q] at e; cases e
      | some o =>
        have z := wf.obj _ _ _ q ha
        simp only [q] at e
        cases o with
        | lst ys => obtain ⟨vs, h1, h2⟩ := z; exact key (SqL.of h1) h2 e
        | scr ys => obtain ⟨vs, h1, h2⟩ := z; exact key h1.sq h2 e
        | dk ys => cases e
        | ins c ys => cases e
  | non => cases e
  | bl b => cases e
  | int i => cases e
  | lis xs => cases e
/-- an end of a slice -/
def rdO (G : Gs) (cd : Option (Addr × Addr)) (P : Pg) (cl : Cl) (a : E) : TO := fun σ H Q => ∃ ρ σp h v h' o, SR G cd ρ H σp σ ∧ Wf G ρ h H ∧ evE P cl a σp h = some (v, h') ∧ partQ a v = some o ∧ ∀ H' ρ', Ext ρ ρ' H H' → Wf G ρ' h' H' → Q o H'
theorem _root_.L2.PO.imp {e : Option Expr} {t t' : TO} (p : PO X e t) (h : ∀ σ H Q, t' σ H Q → t σ H Q) : PO X e t' := ⟨fun pins s σ H Q I q => p.run pins s σ H Q I (h σ H Q q)⟩
theorem ro_none : PO X none (rdO G cd P cl .non) :=
  PO.imp po_none fun σ H Q ⟨ρ, σp, h, v, h', o, sr, wf, ev, ep, g⟩ => by
    cases ev; cases ep; exact g H ρ Ext.refl wf
theorem ro_some {a : E} {ea : Expr} (ha : PE X ea (RE G cd P cl a)) (hn : a ≠ .non) : PO X (some ea) (rdO G cd P cl a) :=
  PO.imp (po_some ha) fun σ H Q ⟨ρ, σp, h, v, h', o, sr, wf, ev, ep, g⟩ => by
    refine ⟨ρ, σp, h, v, h', sr, wf, ev, fun u1 H1 ρ1 x1 w1 r1 => ?_⟩
    have key : ∃ i, v = .int i ∧ o = some i := by
      unfold partQ at ep
      split at ep
      · exact absurd rfl hn
      · cases ep; exact ⟨_, rfl, rfl⟩
      · cases ep
    obtain ⟨i, rfl, rfl⟩ := key
    exact ⟨i, r1.int_of, g H1 ρ1 x1 w1⟩
theorem rd_sl {a lo hi : E} {ea : Expr} {el eh : Option Expr} {p2 pos} (hK : X.K = G.K) (ha : PE X ea (RE G cd P cl a)) (hl : PO X el (rdO G cd P cl lo)) (hh : PO X eh (rdO G cd P cl hi)) : PE X (.Subscript ea (.Slice el eh none p2) pos) (RE G cd P cl (.sl a lo hi)) :=
  (pe_slice (sl_ok hK) ha hl hh).imp fun σ H Q ⟨ρ, σp, hp, w, h', sr, wf, ev, g⟩ => by
    unfold evE at ev
    split at ev
    · rename_i x h1 e1
      split at ev
      · rename_i y h2 e2
        split at ev
        · rename_i z h3 e3
          split at ev
          · rename_i l u q1 q2
            refine ⟨ρ, σp, hp, x, h1, sr, wf, e1, fun u1 H1 ρ1 x1 w1 r1 => ⟨ρ1, σp, h1, y, h2, l, sr.mono x1, w1, e2, q1, fun H2 ρ2 x2 w2 => ⟨ρ2, σp, h2, z, h3, u, sr.mono (x1.trans x2), w2, e3, q2, fun H3 ρ3 x3 w3 => ?_⟩⟩⟩
            exact ⟨ρ3, x, h3, w, h', (r1.mono x2).mono x3, w3, ev, g.mono (x1.trans (x2.trans x3))⟩
          · cases ev
        · cases ev
      · cases ev
    · cases ev

/-! ### argument lists, calls -/
theorem rl_nil : PA X [] (RL G cd P cl .nil) :=
  pa_nil.imp fun σ H Q ⟨ρ, σp, hp, xs, h', sr, wf, ev, g⟩ => by
    cases ev; exact g [] H ρ Ext.refl wf .nil
theorem rl_cons {a r : E} {ea : Expr} {es : List Expr} (ha : PE X ea (RE G cd P cl a)) (hr : PA X es (RL G cd P cl r)) (hs : starEach (ea :: es) X.env = (false, eval ea X.env) :: starEach es X.env) : PA X (ea :: es) (RL G cd P cl (.cons a r)) :=
  (pa_cons ha hr hs).imp fun σ H Q ⟨ρ, σp, hp, xs, h', sr, wf, ev, g⟩ => by
    unfold evL at ev
    split at ev
    · rename_i x h1 e1
      split at ev
      · rename_i ys h2 e2
        cases ev
        refine ⟨ρ, σp, hp, x, h1, sr, wf, e1, fun u1 H1 ρ1 x1 w1 r1 => ⟨ρ1, σp, h1, ys, _, sr.mono x1, w1, e2, fun us H2 ρ2 x2 w2 r2 => ?_⟩⟩
        exact g (u1 :: us) H2 ρ2 (x1.trans x2) w2 (.cons (r1.mono x2) r2)
      · cases ev
    · cases ev
/-- a def's promise: what the evaluator comes to -/
def spF (G : Gs) (ar : Nat) (f : List PV → AH → Res PV) : Sp := fun vs H Q _ => vs.length = ar ∧ ∃ ρ xs h v h', Reps G.K ρ H xs vs ∧ Wf G ρ h H ∧ f xs h = some (v, h') ∧ Go G ρ H h' v Q
/-- what a built-in gives for values -/
def rdC (G : Gs) (f : List PV → AH → Res PV) : List V → Hp → VK → Prop := fun vs H Q => ∃ ρ xs h v h', Reps G.K ρ H xs vs ∧ Wf G ρ h H ∧ f xs h = some (v, h') ∧ Go G ρ H h' v Q
theorem _root_.L2.CallR.imp {f : Value} {r r' : List V → Hp → VK → Prop} (p : CallR X f r) (h : ∀ vs H Q, r' vs H Q → r vs H Q) : CallR X f r' := fun pins s σ H xs us Q I a q => p pins s σ H xs us Q I a (h _ _ _ q)
theorem call_split {f : Nat} {a : E} {σ : Env1} {h : AH} {r : PV × AH} (e : evE P cl (.call f a) σ h = some r) : ∃ xs h1, evL P cl a σ h = some (xs, h1) ∧ cl f xs h1 = some r := by
  unfold evE at e
  split at e
  · exact ⟨_, _, ‹_›, e⟩
  · cases e
theorem evL_len {a : E} : ∀ {σ : Env1} {h : AH} {xs : List PV} {h1 : AH}, evL P cl a σ h = some (xs, h1) → True := fun _ => trivial
/-- a call of a def by its name -/
theorem rd_call {f : Nat} {a : E} {x : Str} {e : Expr} {es : List Expr} {p pos} {fa : Addr} {fd : FuncData} {ps : List Str} {k ar : Nat} (F : FnOk X.prog X.w X.K X.mg X.base CX0 k fa fd ps (spF G ar (cl f))) (hr : Room k X.A) (hg : Gl X x) (hm : X.mg x = some (.ref fa))
    (hk : PySem.W.keepIn X.K (.ref fa) = true) (hb : Binds X.K fd ps []) (har : ∀ xs h r, cl f xs h = some r → xs.length = ar) (hl : PA X (e :: es) (RL G cd P cl a)) (hst : starEach (e :: es) X.env = (false, eval e X.env) :: starEach es X.env)
    (hpl : (backTo pos (starEach es X.env)).any (·.1) = false) (hdb : (x == ("__debug__" : Str)) = false) : PE X (.Call (.Name x p) (e :: es) [] pos) (RE G cd P cl (.call f a)) :=
  (pe_call (E := E0) F hr hg hm hk hb .nil pass0 hl hdb hst hpl).imp fun σ H Q ⟨ρ, σp, hp, w, h', sr, wf, ev, g⟩ => by
    obtain ⟨xs, h1, e1, e2⟩ := call_split ev
    refine ⟨ρ, σp, hp, xs, h1, sr, wf, e1, fun us H1 ρ1 x1 w1 r1 => ?_⟩
    show spF G ar (cl f) (us ++ []) H1 Q E0
    rw [List.append_nil]
    exact ⟨by rw [← r1.length]; exact har _ _ _ e2, ρ1, xs, h1, w, h', r1, w1, e2, g.mono x1⟩
theorem rd_call0 {f : Nat} {x : Str} {p pos} {fa : Addr} {fd : FuncData} {ps : List Str} {k ar : Nat} (F : FnOk X.prog X.w X.K X.mg X.base CX0 k fa fd ps (spF G ar (cl f))) (hr : Room k X.A) (hg : Gl X x) (hm : X.mg x = some (.ref fa))
    (hk : PySem.W.keepIn X.K (.ref fa) = true) (hb : Binds X.K fd ps []) (har : ∀ xs h r, cl f xs h = some r → xs.length = ar) (hdb : (x == ("__debug__" : Str)) = false) : PE X (.Call (.Name x p) [] [] pos) (RE G cd P cl (.call f .nil)) :=
  (pe_call0 (E := E0) F hr hg hm hk hb .nil pass0 hdb).imp fun σ H Q ⟨ρ, σp, hp, w, h', sr, wf, ev, g⟩ => by
    obtain ⟨xs, h1, e1, e2⟩ := call_split ev
    cases e1
    exact ⟨by rw [← har _ _ _ e2]; rfl, ρ, [], hp, w, h', .nil, wf, e2, g⟩
theorem bi_split {b : Bi} {a : E} {σ : Env1} {h : AH} {r : PV × AH} (e : evE P cl (.bi b a) σ h = some r) : ∃ xs h1, evL P cl a σ h = some (xs, h1) ∧ pbi b xs h1 = some r := by
  unfold evE at e
  split at e
  · exact ⟨_, _, ‹_›, e⟩
  · cases e
theorem rd_bi_of {b : Bi} {a : E} {ea : Expr} {r : List V → Hp → VK → Prop} {t : TA} (h : PE X ea (tCB r t)) (ht : ∀ σ H Q, RL G cd P cl a σ H Q → t σ H Q) (hr : ∀ vs H Q, rdC G (pbi b) vs H Q → r vs H Q) : PE X ea (RE G cd P cl (.bi b a)) :=
  h.imp fun σ H Q ⟨ρ, σp, hp, w, h', sr, wf, ev, g⟩ => by
    obtain ⟨xs, h1, e1, e2⟩ := bi_split ev
    exact ht σ H _ ⟨ρ, σp, hp, xs, h1, sr, wf, e1, fun us H1 ρ1 x1 w1 r1 => hr us H1 Q ⟨ρ1, xs, h1, w, h', r1, w1, e2, g.mono x1⟩⟩
/-- a built-in function -/
theorem rd_biB {b : Bi} {a : E} {id : String} {x : Str} {e : Expr} {es : List Expr} {p pos} (hc : CallR X (.builtin id) (rdC G (pbi b))) (hg : Gl X x) (hm : X.mg x = none) (hv : bootBuiltins x = some (.builtin id)) (ha : PA X (e :: es) (RL G cd P cl a)) (hn : x ≠ "__name__") (hdb : (x == ("__debug__" : Str)) = false)
    (he : starEach (e :: es) X.env = (false, eval e X.env) :: starEach es X.env) (hpl : (backTo pos (starEach es X.env)).any (·.1) = false) : PE X (.Call (.Name x p) (e :: es) [] pos) (RE G cd P cl (.bi b a)) :=
  rd_bi_of (pe_callB hc hg hm hv ha hn hdb he hpl) (fun _ _ _ h => h) fun _ _ _ h => h
theorem rd_biT {b : Bi} {a : E} {id : String} {x : Str} {e : Expr} {es : List Expr} {p pos} (hc : CallR X (.type id) (rdC G (pbi b))) (hg : Gl X x) (hm : X.mg x = none) (hv : bootBuiltins x = some (.type id)) (ha : PA X (e :: es) (RL G cd P cl a)) (hn : x ≠ "__name__") (hdb : (x == ("__debug__" : Str)) = false)
    (he : starEach (e :: es) X.env = (false, eval e X.env) :: starEach es X.env) (hpl : (backTo pos (starEach es X.env)).any (·.1) = false) : PE X (.Call (.Name x p) (e :: es) [] pos) (RE G cd P cl (.bi b a)) :=
  rd_bi_of (pe_callTy hc hg hm hv ha hn hdb he hpl) (fun _ _ _ h => h) fun _ _ _ h => h

theorem KReps.length {K : PySem.W.Frag} {ρ : List Addr} {H : Hp} : ∀ {xs : List (KeyP × PV)} {vs : List (Key × V)}, KReps K ρ H xs vs → xs.length = vs.length
  | _, _, .nil => rfl
  | _, _, .cons _ r => by simp [r.length]
/-! ### the built-ins, by values -/
theorem reps1 {K : PySem.W.Frag} {ρ : List Addr} {H : Hp} {x : PV} {vs : List V} (r : Reps K ρ H [x] vs) : ∃ v, vs = [v] ∧ Rep K ρ H x v := by
  cases r with
  | cons a r => cases r; exact ⟨_, rfl, a⟩
theorem bi_len (hK : X.K = G.K) : CallR X (.builtin "len") (rdC G (pbi .len)) := by
  intro pins s σ H vs us Q I rv ⟨ρ, xs, h, w, h', rx, wf, e, g⟩
  have seq : ∀ {x : PV} {ys : List PV}, xs = [x] → seqOf x h = some ys → some (PV.int ys.length, h) = some (w, h') → wpAny (model X.prog X.w) X.A (call (.builtin "len") us) (EP X pins σ Q) X.xe s := by
    intro x ys ex es e0
    cases e0
    subst ex
    obtain ⟨v, rfl, r⟩ := reps1 rx
    obtain ⟨a, ws, rfl, rs, sq⟩ := seq_rep wf r es
    refine call_len_seq pins s σ H _ us Q I rv ⟨a, ws, rfl, hK ▸ sq, ?_⟩
    rw [← rs.length]; exact g.here wf (.int _)
  cases xs with
  | nil => cases e
  | cons x r =>
    cases r with
    | cons y r => simp [pbi] at e
    | nil =>
      cases x with
      | str t =>
        have e : (if t.length ≤ SZ then some (PV.int t.length, h) else none) = some (w, h') := e
        obtain ⟨z, e⟩ := ite_some e
        cases e
        obtain ⟨v, rfl, r⟩ := reps1 rx
        obtain rfl := r.str_of
        refine call_len pins s σ H _ us Q I rv ⟨_, _, rfl, ⟨?_, rfl⟩, ?_⟩
        · rw [toS_length, ← SZ_eq]; exact z
        · rw [toS_length]; exact g.here wf (.int _)
      | tup ys => exact seq rfl rfl e
      | lis ys => exact seq rfl rfl e
      | ref l =>
        cases q : seqOf (.ref l) h with
        | some ys => simp only [pbi, q] at e; exact seq rfl q e
        | none =>
          simp only [pbi, q] at e
          cases q2 : dictOf (.ref l) h with
          | none => simp only [q2] at e; cases e
          | some d =>
            obtain ⟨l2, kvs⟩ := d
            simp only [q2] at e
            cases e
            obtain ⟨v, rfl, r⟩ := reps1 rx
            cases r with
            | ref ha =>
              rename_i a
              have q2 : (match h[l]? with | some (AO.dk kvs) => some (l, kvs) | _ => none) = some (l2, kvs) := q2
              cases q3 : h[l]? with
              | none => rw [q3] at q2; cases q2
              | some o =>
                rw [q3] at q2
                cases o with
                | dk kk =>
                  cases q2
                  obtain ⟨ws, h1, h2⟩ := wf.obj _ _ _ q3 ha
                  have hl : kvs.length = ws.length := h2.length
                  cases rv with
                  | cons r1 r2 =>
                    cases r2
                    cases r1
                    exact d_len I (.inl h1) fun t s' I' => ⟨.int ws.length, H, I', ⟨_, rfl⟩, by rw [← hl]; exact g.here wf (.int _)⟩
                | _ => cases q2
      | _ => simp [pbi, seqOf, dictOf] at e
theorem bi_tuple (hK : X.K = G.K) : CallR X (.type "tuple") (rdC G (pbi .tuple)) := by
  refine CallR.imp call_tupleP fun vs H Q ⟨ρ, xs, h, w, h', rx, wf, e, g⟩ => ?_
  cases xs with
  | nil => cases e
  | cons x r =>
    cases r with
    | cons y r => cases e
    | nil =>
      have e : (seqOf x h).map (fun ys => (PV.tup ys, h)) = some (w, h') := e
      cases q : seqOf x h with
      | none => rw [q] at e; cases e
      | some ys =>
        rw [q] at e; cases e
        obtain ⟨v, rfl, r⟩ := reps1 rx
        cases x with
        | tup zs =>
          cases q
          cases r with
          | tup hq rs => exact ⟨_, _, rfl, .inr ⟨hK ▸ hq.sq, g.here wf (.tup hq rs)⟩⟩
        | lis zs =>
          cases q
          cases r with
          | lis hq rs => exact ⟨_, _, rfl, .inl ⟨hK ▸ hq.sq, g.newTup wf rs⟩⟩
        | ref l =>
          obtain ⟨a, ws, rfl, rs, sq⟩ := seq_rep wf r q
          rcases sq with sq | sq
          · exact ⟨a, ws, rfl, .inl ⟨hK ▸ sq, g.newTup wf rs⟩⟩
          · cases r with
            | ref ha =>
              have q : (match h[l]? with | some (AO.lst xs) => some xs | some (AO.scr xs) => some xs | _ => none) = some ys := q
              cases q3 : h[l]? with
              | none => rw [q3] at q; cases q
              | some o =>
                rw [q3] at q
                have z := wf.obj _ _ _ q3 ha
                cases o with
                | lst zs => cases q; obtain ⟨us, h1, h2⟩ := z; exact ⟨a, us, rfl, .inl ⟨SqL.of h1, g.newTup wf h2⟩⟩
                | scr zs => cases q; obtain ⟨us, h1, h2⟩ := z; exact ⟨a, us, rfl, .inl ⟨hK ▸ h1.sq, g.newTup wf h2⟩⟩
                | dk zs => cases q
                | ins c zs => cases q
        | _ => simp [seqOf] at q
theorem bi_list (hK : X.K = G.K) : CallR X (.type "list") (rdC G (pbi .list)) := by
  refine CallR.imp call_list_of fun vs H Q ⟨ρ, xs, h, w, h', rx, wf, e, g⟩ => ?_
  cases xs with
  | nil => cases e
  | cons x r =>
    cases r with
    | cons y r => cases e
    | nil =>
      have e : (match seqOf x h with | some ys => alloc (.lst ys) h | none => none) = some (w, h') := e
      cases q : seqOf x h with
      | none => rw [q] at e; cases e
      | some ys =>
        rw [q] at e
        obtain ⟨rfl, rfl⟩ := alloc_eq e
        obtain ⟨v, rfl, r⟩ := reps1 rx
        obtain ⟨a, ws, rfl, rs, sq⟩ := seq_rep wf r q
        exact ⟨a, ws, rfl, hK ▸ sq, fun l hl => g.newLst wf rs hl⟩
theorem bi_int : CallR X (.type "int") (rdC G (pbi .int)) := by
  refine CallR.imp call_int1 fun vs H Q ⟨ρ, xs, h, w, h', rx, wf, e, g⟩ => ?_
  cases xs with
  | nil => cases e
  | cons x r =>
    cases r with
    | cons y r => simp [pbi] at e
    | nil =>
      obtain ⟨v, rfl, r⟩ := reps1 rx
      cases x with
      | int i => cases e; obtain rfl := r.int_of; exact .inl ⟨i, rfl, g.here wf (.int _)⟩
      | bl b =>
        cases e; obtain rfl := r.bl_of
        refine .inr ⟨b, rfl, ?_⟩
        have := g.here wf (.int _)
        cases b <;> exact this
      | _ => cases e
end
end Mi
set_option Elab.async false
set_option linter.all false
set_option maxRecDepth 100000
set_option maxHeartbeats 2000000
/-! Mi F: more built-ins; methods -/
namespace Mi
open PySem PySem.Spec PyProof.Rows L2

section
variable {X : Cx} {G : Gs} {cd : Option (Addr × Addr)} {P : Pg} {cl : Cl}
theorem toS_ofString (s : String) : Str.ofString s = toS (s.toList.map Char.toNat) := Str.ofString_eq_toList s
theorem natSg_eq (n : Nat) : natSg n = (toString n).toList.map Char.toNat := by
  show _ = (String.ofList (Nat.toDigits 10 n)).toList.map Char.toNat
  rw [String.toList_ofList]; rfl
theorem intSg_eq (i : Int) : Str.ofString (toString i) = toS (intSg i) := by
  rw [toS_ofString]
  cases i with
  | ofNat n =>
    show toS ((toString n).toList.map Char.toNat) = toS (natSg n)
    rw [natSg_eq]
  | negSucc n =>
    show toS (("-" ++ toString (n + 1)).toList.map Char.toNat) = toS (45 :: natSg (n + 1))
    rw [natSg_eq, String.toList_append]
    rfl
theorem bi_str : CallR X (.type "str") (rdC G (pbi .str)) := by
  refine CallR.imp call_str_int fun vs H Q ⟨ρ, xs, h, w, h', rx, wf, e, g⟩ => ?_
  cases xs with
  | nil => simp [pbi] at e
  | cons x r =>
    cases r with
    | cons y r => simp [pbi] at e
    | nil =>
      obtain ⟨v, rfl, r⟩ := reps1 rx
      cases x with
      | int i =>
        have e : (if i.natAbs.log2 < 1920 then some (PV.str (intSg i), h) else none) = some (w, h') := e
        obtain ⟨z, e⟩ := ite_some e
        cases e; obtain rfl := r.int_of
        refine ⟨i, rfl, z, ?_⟩
        show Q (.str (Str.ofString (toString i))) H
        rw [intSg_eq]
        exact g.here wf (.str _)
      | _ => simp [pbi] at e

/-! ### isinstance -/
inductive Is4 where | int | bool | str | tup
def Is4.nm : Is4 → String | .int => "int" | .bool => "bool" | .str => "str" | .tup => "tuple"
def Is4.bi : Is4 → Bi | .int => .isInt | .bool => .isBool | .str => .isStr | .tup => .isTup
def tyName : PV → String
  | .non => "NoneType" | .bl _ => "bool" | .int _ => "int" | .str _ => "str" | _ => "tuple"
def Is4.f : Is4 → PV → Bool
  | .int, .bl _ => true | .int, .int _ => true | .bool, .bl _ => true | .str, .str _ => true | .tup, .tup _ => true | _, _ => false
theorem pbi_is (t : Is4) (x : PV) (h : AH) : pbi t.bi [x] h = (match x with | .ref _ => none | .lis _ => none | _ => some (.bl (t.f x), h)) := by
  cases t <;> cases x <;> rfl
theorem ty_rep {K : PySem.W.Frag} {ρ : List Addr} {H : Hp} {x : PV} {x' : V} (r : Rep K ρ H x x') : (∃ l, x = .ref l) ∨ (∃ l, x = .lis l) ∨ TyX K H x' (.type (tyName x)) := by
  cases r with
  | non => exact .inr (.inr (.base .non))
  | bl b => exact .inr (.inr (.base (.bl b)))
  | int i => exact .inr (.inr (.base (.int i)))
  | str s => exact .inr (.inr (.base (.str _)))
  | tup hq rs =>
    rcases hq with ⟨o, h, d⟩ | ⟨o, its, n, h1, h2, h3⟩
    · exact .inr (.inr (.fTuple h))
    · exact .inr (.inr (.kTuple h1 h2))
  | ref h => exact .inl ⟨_, rfl⟩
  | lis h r => exact .inr (.inl ⟨_, rfl⟩)
theorem kits (t : Is4) (x : PV) (hx : ∀ l, x ≠ .ref l) (hx2 : ∀ l, x ≠ .lis l) : L2.kitB (tyName x) t.nm = some (t.f x) := by
  cases x with
  | ref l => exact absurd rfl (hx l)
  | lis l => exact absurd rfl (hx2 l)
  | non =>
    cases t
    · exact (by decide +kernel : L2.kitB "NoneType" "int" = some false)
    · exact (by decide +kernel : L2.kitB "NoneType" "bool" = some false)
    · exact (by decide +kernel : L2.kitB "NoneType" "str" = some false)
    · exact (by decide +kernel : L2.kitB "NoneType" "tuple" = some false)
  | bl b =>
    cases t
    · exact (by decide +kernel : L2.kitB "bool" "int" = some true)
    · exact (by decide +kernel : L2.kitB "bool" "bool" = some true)
    · exact (by decide +kernel : L2.kitB "bool" "str" = some false)
    · exact (by decide +kernel : L2.kitB "bool" "tuple" = some false)
  | int i =>
    cases t
    · exact (by decide +kernel : L2.kitB "int" "int" = some true)
    · exact (by decide +kernel : L2.kitB "int" "bool" = some false)
    · exact (by decide +kernel : L2.kitB "int" "str" = some false)
    · exact (by decide +kernel : L2.kitB "int" "tuple" = some false)
  | str i =>
    cases t
    · exact (by decide +kernel : L2.kitB "str" "int" = some false)
    · exact (by decide +kernel : L2.kitB "str" "bool" = some false)
    · exact (by decide +kernel : L2.kitB "str" "str" = some true)
    · exact (by decide +kernel : L2.kitB "str" "tuple" = some false)
  | tup xs =>
    cases t
    · exact (by decide +kernel : L2.kitB "tuple" "int" = some false)
    · exact (by decide +kernel : L2.kitB "tuple" "bool" = some false)
    · exact (by decide +kernel : L2.kitB "tuple" "str" = some false)
    · exact (by decide +kernel : L2.kitB "tuple" "tuple" = some true)
theorem rd_isi {t : Is4} {a : E} {ea : Expr} {p1 p2 pos} (hK : X.K = G.K) (hg : Gl X "isinstance") (hm : X.mg "isinstance" = none) (ht : Gl X (Str.ofString t.nm)) (hm2 : X.mg (Str.ofString t.nm) = none) (ha : PE X ea (RE G cd P cl a))
    (he : starEach [ea, .Name (Str.ofString t.nm) p2] X.env = (false, eval ea X.env) :: starEach [.Name (Str.ofString t.nm) p2] X.env) : PE X (.Call (.Name "isinstance" p1) [ea, .Name (Str.ofString t.nm) p2] [] pos) (RE G cd P cl (.bi t.bi (.cons a .nil))) := by
  have hv : bootBuiltins (Str.ofString t.nm) = some (.type t.nm) := by cases t <;> decide +kernel
  have hn : Str.ofString t.nm ≠ "__name__" := by cases t <;> decide +kernel
  have hd : (Str.ofString t.nm == ("__debug__" : Str)) = false := by cases t <;> decide +kernel
  refine (pe_callB call_isi hg hm (by decide +kernel) (pa_cons ha (pa_cons (pe_bltn ht hm2 hv (v := .ty t.nm) rfl hn hd) pa_nil) he) (by decide) (by decide) he rfl).imp fun σ H Q ⟨ρ, σp, hp, w, h', sr, wf, ev, g⟩ => ?_
  obtain ⟨xs, h1, e1, e2⟩ := bi_split ev
  unfold evL at e1
  split at e1
  · rename_i x h2 q
    have e1 : some ([x], h2) = some (xs, h1) := e1
    cases e1
    refine ⟨ρ, σp, hp, x, _, sr, wf, q, fun u1 H1 ρ1 x1 w1 r1 => ?_⟩
    rw [pbi_is] at e2
    rcases ty_rep r1 with ⟨l, rfl⟩ | ⟨l, rfl⟩ | ty
    · cases e2
    · cases e2
    · have hx : ∀ l, x ≠ .ref l := fun l z => by subst z; cases e2
      have hx2 : ∀ l, x ≠ .lis l := fun l z => by subst z; cases e2
      refine ⟨u1, .ty t.nm, _, _, t.f x, rfl, .ty _, hK ▸ ty, kit_ty (kits t x hx hx2), ?_⟩
      have : w = .bl (t.f x) ∧ h' = h1 := by
        cases x <;> first | (cases e2; exact ⟨rfl, rfl⟩) | cases e2
      obtain ⟨rfl, rfl⟩ := this
      exact (g.mono x1).here w1 (.bl _)
  · cases e1

/-! ### sorted, of texts -/
theorem allStr_rep {K : PySem.W.Frag} {ρ : List Addr} {H : Hp} : ∀ {xs : List PV} {vs : List V} {ss : List Sg}, Reps K ρ H xs vs → allStr xs = some ss → vs = (ss.map toS).map V.str
  | _, _, _, .nil, e => by cases e; rfl
  | _, _, ss, .cons (x := x) (xs := r) a rr, e => by
    cases x with
    | str s =>
      have e : (allStr r).map (s :: ·) = some ss := e
      cases q : allStr r with
      | none => rw [q] at e; cases e
      | some tt =>
        rw [q] at e; cases e
        rw [allStr_rep rr q]
        obtain rfl := a.str_of
        rfl
    | _ => simp [allStr] at e
theorem strs_rep {K : PySem.W.Frag} {ρ : List Addr} {H : Hp} : ∀ ss : List Sg, Reps K ρ H (ss.map .str) ((ss.map toS).map V.str)
  | [] => .nil
  | s :: r => .cons (.str s) (strs_rep r)
theorem insSg_perm (x : Sg) : ∀ xs : List Sg, (insSg x xs).Perm (x :: xs)
  | [] => .refl _
  | y :: r => by
    unfold insSg
    split
    · exact .refl _
    · exact ((insSg_perm x r).cons y).trans (List.Perm.swap x y r)
theorem sortSg_perm : ∀ xs : List Sg, (sortSg xs).Perm xs
  | [] => .refl _
  | x :: r => (insSg_perm x (sortSg r)).trans ((sortSg_perm r).cons x)
theorem sgLe_lt : ∀ x y : Sg, sgLe x y = !Spec.ltCps y x
  | [], [] => rfl
  | [], _ :: _ => rfl
  | _ :: _, [] => rfl
  | a :: x, b :: y => by
    unfold sgLe Spec.ltCps
    have ih := sgLe_lt x y
    by_cases h1 : a < b
    · have h2 : ¬ b < a := by omega
      have h3 : (b == a) = false := by simp; omega
      simp [h1, h2, h3]
    · by_cases h2 : b < a
      · simp [h1, h2]
      · have : a = b := by omega
        subst this
        simp [ih]
theorem sgLe_total : ∀ x y : Sg, sgLe x y = true ∨ sgLe y x = true
  | [], _ => .inl rfl
  | _ :: _, [] => .inr rfl
  | a :: x, b :: y => by
    unfold sgLe
    by_cases h1 : a < b
    · simp [h1]
    · by_cases h2 : b < a
      · simp [h2]
      · have h3 : ¬ a < b := h1
        simp only [h1, h2, if_false]
        exact sgLe_total x y
theorem sgLe_anti : ∀ x y : Sg, sgLe x y = true → sgLe y x = true → x = y
  | [], [], _, _ => rfl
  | [], _ :: _, _, h => by cases h
  | _ :: _, [], h, _ => by cases h
  | a :: x, b :: y, h, h' => by
    unfold sgLe at h h'
    by_cases h1 : a < b
    · have h2 : ¬ b < a := by omega
      simp [h1, h2] at h'
    · by_cases h2 : b < a
      · simp [h1, h2] at h
      · have : a = b := by omega
        subst this
        simp only [h1, if_false] at h h'
        rw [sgLe_anti x y h h']
theorem sgLe_trans : ∀ x y z : Sg, sgLe x y = true → sgLe y z = true → sgLe x z = true
  | [], _, _, _, _ => rfl
  | _ :: _, [], _, h, _ => by cases h
  | _ :: _, _ :: _, [], _, h => by cases h
  | a :: x, b :: y, c :: z, h, h' => by
    unfold sgLe at h h' ⊢
    by_cases h1 : a < b
    · by_cases h2 : b < c
      · have : a < c := by omega
        simp [this]
      · by_cases h3 : c < b
        · simp [h2, h3] at h'
        · have : a < c := by omega
          simp [this]
    · by_cases h2 : b < a
      · simp [h1, h2] at h
      · have : a = b := by omega
        subst this
        simp only [h1, if_false] at h
        by_cases h3 : a < c
        · simp [h3]
        · by_cases h4 : c < a
          · simp [h3, h4] at h'
          · simp only [h3, h4, if_false] at h' ⊢
            exact sgLe_trans x y z h h'
theorem insSg_pw (x : Sg) : ∀ xs : List Sg, xs.Pairwise (fun a b => sgLe a b = true) → (insSg x xs).Pairwise (fun a b => sgLe a b = true)
  | [], _ => by unfold insSg; exact List.pairwise_singleton _ _
  | y :: r, h => by
    unfold insSg
    obtain ⟨h1, h2⟩ := List.pairwise_cons.mp h
    split
    · rename_i c
      refine List.pairwise_cons.mpr ⟨fun z hz => ?_, h⟩
      rcases List.mem_cons.mp hz with rfl | hz
      · exact c
      · exact sgLe_trans _ _ _ c (h1 z hz)
    · rename_i c
      refine List.pairwise_cons.mpr ⟨fun z hz => ?_, insSg_pw x r h2⟩
      rcases List.mem_cons.mp ((insSg_perm x r).mem_iff.mp hz) with rfl | hz
      · exact (sgLe_total z y).resolve_left c
      · exact h1 z hz
theorem sortSg_pw : ∀ xs : List Sg, (sortSg xs).Pairwise (fun a b => sgLe a b = true)
  | [] => List.Pairwise.nil
  | x :: r => insSg_pw x _ (sortSg_pw r)
theorem risingS_pw : ∀ (ys : List Str) (p : Str), risingS p ys = true → (p :: ys).Pairwise (fun a b => sgLe a.cps.toList b.cps.toList = true)
  | [], p, _ => List.pairwise_singleton _ _
  | x :: r, p, h => by
    unfold risingS at h
    rw [Bool.and_eq_true] at h
    have ih := risingS_pw r x h.2
    have hpx : sgLe p.cps.toList x.cps.toList = true := by rw [sgLe_lt]; exact h.1
    refine List.pairwise_cons.mpr ⟨fun z hz => ?_, ih⟩
    rcases List.mem_cons.mp hz with rfl | hz
    · exact hpx
    · exact sgLe_trans _ _ _ hpx ((List.pairwise_cons.mp ih).1 z hz)
theorem sortedS_pw {ys : List Str} (h : sortedS ys = true) : ys.Pairwise (fun a b => sgLe a.cps.toList b.cps.toList = true) := by
  cases ys with
  | nil => exact .nil
  | cons x r => exact risingS_pw r x h
theorem str_ext {a b : Str} (h : a.cps.toList = b.cps.toList) : a = b := by
  cases a; cases b
  congr
  exact Array.toList_inj.mp h
theorem sort_unique {ys : List Str} {ss : List Sg} (hp : ys.Perm (ss.map toS)) (hs : sortedS ys = true) : ys = (sortSg ss).map toS := by
  refine List.Perm.eq_of_pairwise (le := fun a b => sgLe a.cps.toList b.cps.toList = true) (fun a b _ _ h1 h2 => str_ext (sgLe_anti _ _ h1 h2)) (sortedS_pw hs) ?_ (hp.trans ((sortSg_perm ss).map toS).symm)
  rw [List.pairwise_map]
  refine (sortSg_pw ss).imp fun h => ?_
  rw [toS_cps, toS_cps]; exact h
/-- sorted of texts, by what the library gives -/
theorem go_sorted {ρ : List Addr} {h h' : AH} {H : Hp} {w : PV} {xs : List PV} {vs : List V} {Q : VK} (wf : Wf G ρ h H) (rs : Reps G.K ρ H xs vs) (e : psort xs h = some (w, h')) (hs : ∃ ss, allStr xs = some ss) (g : Go G ρ H h' w Q) :
    ∃ ss : List Str, vs = ss.map V.str ∧ ss.length < 64 ∧ ∀ ys p, ys.Perm ss → sortedS ys = true → H p = none → Q (.ref p) (upd H p (.lst (ys.map V.str))) := by
  obtain ⟨ss, es⟩ := hs
  unfold psort at e
  obtain ⟨z, e⟩ := ite_some e
  rw [es] at e
  obtain ⟨rfl, rfl⟩ := alloc_eq e
  have hv := allStr_rep rs es
  refine ⟨ss.map toS, hv, ?_, fun ys p hp hsrt hn => ?_⟩
  · have h1 := rs.length
    rw [hv, List.length_map] at h1
    rw [← h1]; exact z
  · rw [sort_unique hp hsrt]
    exact g.newLst wf (strs_rep _) hn
theorem seq_refL {ρ : List Addr} {h : AH} {H : Hp} {l : Nat} {a : Addr} {xs : List PV} (wf : Wf G ρ h H) (ha : ρ[l]? = some a) (e : seqOf (.ref l) h = some xs) : ∃ vs, SqL G.K H a vs ∧ Reps G.K ρ H xs vs := by
  have e : (match h[l]? with | some (AO.lst xs) => some xs | some (AO.scr xs) => some xs | _ => none) = some xs := e
  cases q3 : h[l]? with
  | none => rw [q3] at e; cases e
  | some o =>
    rw [q3] at e
    have z := wf.obj _ _ _ q3 ha
    cases o with
    | lst zs => cases e; obtain ⟨us, h1, h2⟩ := z; exact ⟨us, SqL.of h1, h2⟩
    | scr zs => cases e; obtain ⟨us, h1, h2⟩ := z; exact ⟨us, h1.sq, h2⟩
    | dk zs => cases e
    | ins c zs => cases e
theorem bi_sorted (hK : X.K = G.K) : CallR X (.builtin "sorted") (rdC G (pbi .sorted)) := by
  refine CallR.imp cr_sortedS fun vs H Q ⟨ρ, xs, h, w, h', rx, wf, e, g⟩ => ?_
  cases xs with
  | nil => simp [pbi] at e
  | cons x r =>
    cases r with
    | cons y r => simp [pbi] at e
    | nil =>
      obtain ⟨v, rfl, r⟩ := reps1 rx
      cases r with
      | @ref l a ha =>
        have e : (match seqOf (.ref l) h with | some ys => psort ys h | none => none) = some (w, h') := e
        cases q : seqOf (.ref l) h with
        | none => rw [q] at e; cases e
        | some ys =>
          rw [q] at e
          obtain ⟨ws, sq, rs⟩ := seq_refL wf ha q
          have hs : ∃ ss, allStr ys = some ss := by
            unfold psort at e
            obtain ⟨z, e⟩ := ite_some e
            cases q2 : allStr ys with
            | none => rw [q2] at e; cases e
            | some ss => exact ⟨ss, rfl⟩
          obtain ⟨tt, rfl, h64, hq⟩ := go_sorted wf rs e hs g
          exact ⟨a, tt, rfl, hK ▸ sq, h64, hq⟩
      | _ => simp [pbi] at e

/-! ### dict(..) of a tuple of pairs -/
theorem pairs_rep {K : PySem.W.Frag} {ρ : List Addr} {H : Hp} : ∀ {ys : List PV} {vs : List V} {kvs : List (KeyP × PV)}, Reps K ρ H ys vs → pairsOf ys = some kvs →
    ∃ (ps : List Addr) (ws : List (Key × V)), vs = ps.map V.ref ∧ KReps K ρ H kvs ws ∧ Paired (fun p kv => SqT K H p [kV kv.1, kv.2]) ps ws
  | _, _, _, .nil, e => by cases e; exact ⟨[], [], rfl, .nil, .nil⟩
  | _, _, kvs, .cons (x := x) (xs := r) a rr, e => by
    have inv : ∃ k v k' kvs', x = .tup [k, v] ∧ keyP k = some k' ∧ pairsOf r = some kvs' ∧ kvs = (k', v) :: kvs' := by
      cases x with
      | tup zs =>
        cases zs with
        | nil => simp [pairsOf] at e
        | cons k zs =>
          cases zs with
          | nil => simp [pairsOf] at e
          | cons v zs =>
            cases zs with
            | cons _ _ => simp [pairsOf] at e
            | nil =>
              simp only [pairsOf] at e
              cases q1 : keyP k with
              | none => simp only [q1] at e; cases e
              | some k' =>
                cases q2 : pairsOf r with
                | none => simp only [q1, q2] at e; cases e
                | some kvs' => simp only [q1, q2] at e; cases e; exact ⟨k, v, k', kvs', rfl, q1, rfl, rfl⟩
      | _ => simp [pairsOf] at e
    obtain ⟨k, v, k', kvs', rfl, q1, q2, rfl⟩ := inv
    obtain ⟨ps, ws, rfl, kr, pr⟩ := pairs_rep rr q2
    cases a with
    | @tup b us _ hq rs =>
      cases rs with
      | @cons _ vk _ _ rk rs =>
        cases rs with
        | @cons _ vv _ _ rv rs =>
          cases rs
          refine ⟨b :: ps, (keyS k', vv) :: ws, rfl, .cons rv kr, .cons ?_ pr⟩
          have : kV (keyS k') = vk := by
            cases k with
            | int i => cases q1; rw [rk.int_of]; rfl
            | str s => cases q1; rw [rk.str_of]; rfl
            | _ => cases q1
          show SqT K H b [kV (keyS k'), vv]
          rw [this]
          exact hq.sq
theorem any_key {K : PySem.W.Frag} {ρ : List Addr} {H : Hp} (k : KeyP) : ∀ {xs : List (KeyP × PV)} {vs : List (Key × V)}, KReps K ρ H xs vs → (vs.any fun kv => decide (kv.1 = keyS k)) = (xs.any fun kv => decide (kv.1 = k))
  | _, _, .nil => rfl
  | _, _, .cons (k := k2) a r => by
    rw [List.any_cons, List.any_cons, any_key k r]
    congr 1
    by_cases z : k2 = k
    · subst z; simp
    · rw [decide_eq_false z, decide_eq_false fun q => z (keyS_inj q)]
theorem KReps.map_put {K : PySem.W.Frag} {ρ : List Addr} {H : Hp} {k : KeyP} {x : PV} {v : V} (a : Rep K ρ H x v) : ∀ {xs : List (KeyP × PV)} {vs : List (Key × V)}, KReps K ρ H xs vs →
    KReps K ρ H (xs.map fun kv => if kv.1 = k then (kv.1, x) else kv) (vs.map fun kv => if kv.1 = keyS k then (kv.1, v) else kv)
  | _, _, .nil => .nil
  | _, _, .cons (k := k2) b r => by
    rw [List.map_cons, List.map_cons]
    by_cases z : k2 = k
    · subst z
      simp only [if_true]
      exact .cons a (KReps.map_put a r)
    · have z' : ¬ keyS k2 = keyS k := fun q => z (keyS_inj q)
      simp only [z, z', if_false]
      exact .cons b (KReps.map_put a r)
theorem KReps.snoc {K : PySem.W.Frag} {ρ : List Addr} {H : Hp} {k : KeyP} {x : PV} {v : V} (a : Rep K ρ H x v) : ∀ {xs : List (KeyP × PV)} {vs : List (Key × V)}, KReps K ρ H xs vs → KReps K ρ H (xs ++ [(k, x)]) (vs ++ [(keyS k, v)])
  | _, _, .nil => .cons a .nil
  | _, _, .cons b r => .cons b (KReps.snoc a r)
theorem KReps.put {K : PySem.W.Frag} {ρ : List Addr} {H : Hp} {k : KeyP} {x : PV} {v : V} {xs : List (KeyP × PV)} {vs : List (Key × V)} (r : KReps K ρ H xs vs) (a : Rep K ρ H x v) : KReps K ρ H (putP xs k x) (putK vs (keyS k) v) := by
  unfold putP putK
  rw [any_key k r]
  split
  · exact r.map_put a
  · exact r.snoc a
theorem KReps.merge {K : PySem.W.Frag} {ρ : List Addr} {H : Hp} : ∀ {ys : List (KeyP × PV)} {ws : List (Key × V)}, KReps K ρ H ys ws → ∀ {xs : List (KeyP × PV)} {vs : List (Key × V)}, KReps K ρ H xs vs → KReps K ρ H (mergeP xs ys) (mergeK vs ws)
  | _, _, .nil, _, _, r => r
  | _, _, .cons a t, _, _, r => KReps.merge t (r.put a)
theorem KReps.look {K : PySem.W.Frag} {ρ : List Addr} {H : Hp} (k : KeyP) : ∀ {xs : List (KeyP × PV)} {vs : List (Key × V)}, KReps K ρ H xs vs → (lookP xs k = none ∧ valV vs (keyS k) = none) ∨ ∃ x v, lookP xs k = some x ∧ valV vs (keyS k) = some v ∧ Rep K ρ H x v
  | _, _, .nil => .inl ⟨rfl, rfl⟩
  | _, _, .cons (k := k2) (x := x) (v := v) a r => by
    unfold lookP valV
    by_cases z : k2 = k
    · subst z
      refine .inr ⟨x, v, ?_, ?_, a⟩ <;> simp
    · have z' : ¬ keyS k2 = keyS k := fun q => z (keyS_inj q)
      have ih := KReps.look k r
      unfold lookP valV at ih
      simp only [List.find?_cons, z, z', decide_false]
      exact ih
theorem bi_dict (hK : X.K = G.K) (hc : X.calm = true) : CallR X (.type "dict") (rdC G (pbi .dict)) := by
  refine CallR.imp (call_dictT hc) fun vs H Q ⟨ρ, xs, h, w, h', rx, wf, e, g⟩ => ?_
  cases xs with
  | nil => simp [pbi] at e
  | cons x r =>
    cases r with
    | cons y r => simp [pbi] at e
    | nil =>
      obtain ⟨v, rfl, r⟩ := reps1 rx
      cases r with
      | @tup a us ys hq rs =>
        have e : (match pairsOf ys with | some kvs => alloc (.dk (mergeP [] kvs)) h | none => none) = some (w, h') := e
        cases q : pairsOf ys with
        | none => rw [q] at e; cases e
        | some kvs =>
          rw [q] at e
          obtain ⟨rfl, rfl⟩ := alloc_eq e
          obtain ⟨ps, ws, rfl, kr, pr⟩ := pairs_rep rs q
          exact ⟨a, _, ps, ws, rfl, hK ▸ hq, rfl, hK ▸ pr, fun p hp => g.newDk wf (KReps.merge kr .nil) hp⟩
      | _ => simp [pbi] at e

/-! ### methods -/
def rdM (G : Gs) (f : PV → List PV → AH → Res PV) : V → List V → Hp → VK → Prop := fun x' vs H Q => ∃ ρ x xs h v h', Rep G.K ρ H x x' ∧ Reps G.K ρ H xs vs ∧ Wf G ρ h H ∧ f x xs h = some (v, h') ∧ Go G ρ H h' v Q
theorem _root_.L2.MtR.imp {id : String} {r r' : V → List V → Hp → VK → Prop} (p : MtR X id r) (h : ∀ x vs H Q, r' x vs H Q → r x vs H Q) : MtR X id r' := fun pins s σ H x xs v us Q I a b q => p pins s σ H x xs v us Q I a b (h _ _ _ _ q)
theorem app_inv {o : PV} {xs : List PV} {h : AH} {r : PV × AH} (e : pmt .append o xs h = some r) : ∃ l v ys, o = .ref l ∧ xs = [v] ∧ h[l]? = some (.lst ys) ∧ ys.length < SZ ∧ r = (.non, h.set l (.lst (ys ++ [v]))) := by
  cases o with
  | ref l =>
    cases xs with
    | nil => simp [pmt] at e
    | cons v r =>
      cases r with
      | cons _ _ => simp [pmt] at e
      | nil =>
        simp only [pmt] at e
        cases q : h[l]? with
        | none => simp only [q] at e; cases e
        | some o =>
          simp only [q] at e
          cases o with
          | lst ys => obtain ⟨z, e⟩ := ite_some e; cases e; exact ⟨l, v, ys, rfl, rfl, q, z, rfl⟩
          | _ => cases e
  | _ => simp [pmt] at e
theorem get_inv {o : PV} {xs : List PV} {h : AH} {r : PV × AH} (e : pmt .get o xs h = some r) : ∃ l k d kvs k', o = .ref l ∧ xs = [k, d] ∧ h[l]? = some (.dk kvs) ∧ keyP k = some k' ∧ r = ((lookP kvs k').getD d, h) := by
  cases xs with
  | nil => cases o <;> simp [pmt] at e
  | cons k r =>
    cases r with
    | nil => cases o <;> simp [pmt] at e
    | cons d r =>
      cases r with
      | cons _ _ => cases o <;> simp [pmt] at e
      | nil =>
        have e : (match dictOf o h, keyP k with | some (_, kvs), some k => some ((lookP kvs k).getD d, h) | _, _ => none) = some r := by cases o <;> exact e
        cases o with
        | ref l =>
          have hd : dictOf (.ref l) h = (match h[l]? with | some (AO.dk kvs) => some (l, kvs) | _ => none) := rfl
          rw [hd] at e
          cases q : h[l]? with
          | none => rw [q] at e; cases e
          | some ob =>
            rw [q] at e
            cases ob with
            | dk kvs =>
              cases qk : keyP k with
              | none => rw [qk] at e; cases e
              | some k' => rw [qk] at e; cases e; exact ⟨l, k, d, kvs, k', rfl, rfl, q, qk, rfl⟩
            | _ => cases e
        | _ => cases e
theorem mt_app : MtR X "list.append" (rdM G (pmt .append)) := by
  refine MtR.imp mt_append fun x' vs H Q ⟨ρ, x, xs, h, w, h', rx, rs, wf, e, g⟩ => ?_
  obtain ⟨l, v, ys, rfl, rfl, q, z, e⟩ := app_inv e
  cases e
  cases rx with
  | @ref _ a ha =>
    obtain ⟨u, rfl, ru⟩ := reps1 rs
    obtain ⟨us, h1, h2⟩ := wf.obj _ _ _ q ha
    have hx : Ext ρ ρ H (upd H a (.lst (us ++ [u]))) := Ext.set ha (by rw [h1]; trivial) (by rw [h1]; simp)
    refine ⟨a, us, u, rfl, rfl, h1, by rw [← h2.length, ← SZ_eq]; exact z, g _ _ ρ hx (wf.set ha q rfl rfl ⟨_, upd_same, (h2.snoc ru).mono hx⟩) .non⟩
theorem mt_dget (hu : X.A.units + 1 < cLine) : MtR X "dict.get" (rdM G (pmt .get)) := by
  intro pins s σ H x' vs v us Q I rv ru ⟨ρ, x, xs, h, w, h', rx, rs, wf, e, g⟩
  obtain ⟨l, k, d, kvs, k', rfl, rfl, q, qk, e⟩ := get_inv e
  cases e
  cases rx with
  | @ref _ a ha =>
    obtain ⟨ws, h1, kr⟩ := wf.obj _ _ _ q ha
    cases rs with
    | @cons _ vk _ _ rk rs =>
      cases rs with
      | @cons _ vd _ _ rd rs =>
        cases rs
        have ek : vk = kV (keyS k') := by
          cases k with
          | int i => cases qk; exact rk.int_of
          | str t => cases qk; exact rk.str_of
          | _ => cases qk
        subst ek
        cases rv
        cases ru with
        | cons r1 ru =>
          cases ru with
          | cons r2 ru =>
            cases ru
            refine d_get2 hu I (DGet.k (k := keyS k') h1) r1 r2 fun w' s' I' rw' => ⟨_, H, I', rw', ?_⟩
            rcases kr.look k' with ⟨e1, e2⟩ | ⟨x, v, e1, e2, r⟩
            · rw [e2]; rw [e1] at g; exact g.here wf rd
            · rw [e2]; rw [e1] at g; exact g.here wf r
theorem mt_split {m : Mt} {o a : E} {σ : Env1} {h : AH} {r : PV × AH} (e : evE P cl (.mt m o a) σ h = some r) : ∃ x h1 xs h2, evE P cl o σ h = some (x, h1) ∧ okT m x h1 = true ∧ evL P cl a σ h1 = some (xs, h2) ∧ pmt m x xs h2 = some r := by
  unfold evE at e
  split at e
  · obtain ⟨c, e⟩ := ite_some e
    split at e
    · exact ⟨_, _, _, _, ‹_›, c, ‹_›, e⟩
    · cases e
  · cases e
def MTy.nm : MTy → String | .list => "list" | .dict => "dict" | .str => "str"
theorem okT_rep {ρ : List Addr} {h : AH} {H : Hp} {x : PV} {x' : V} {m : Mt} (wf : Wf G ρ h H) (r : Rep G.K ρ H x x') (e : okT m x h = true) : tyV G.K m.ty.nm x' H := by
  cases r with
  | str s =>
    have e : (match m.ty with | .str => true | _ => false) = true := e
    show m.ty.nm = "str"
    cases q : m.ty <;> rw [q] at e <;> first | rfl | cases e
  | @ref l a ha =>
    have e : (match h[l]? with | some (.lst _) => (match m.ty with | .list => true | _ => false) | some (.dk _) => (match m.ty with | .dict => true | _ => false) | _ => false) = true := e
    cases q : h[l]? with
    | none => rw [q] at e; cases e
    | some o =>
      rw [q] at e
      have z := wf.obj _ _ _ q ha
      cases o with
      | lst ys =>
        have e : (match m.ty with | .list => true | _ => false) = true := e
        obtain ⟨vs, h1, _⟩ := z
        refine .inl ⟨?_, vs, SqL.of h1⟩
        cases q : m.ty <;> rw [q] at e <;> first | rfl | cases e
      | dk ys =>
        have e : (match m.ty with | .dict => true | _ => false) = true := e
        obtain ⟨vs, h1, _⟩ := z
        refine .inr (.inr (.inl ⟨?_, .inl ⟨vs, h1⟩⟩))
        cases q : m.ty <;> rw [q] at e <;> first | rfl | cases e
      | _ => cases e
  | _ => cases e
/-- a method of a built-in type, with arguments -/
theorem rd_mt {m : Mt} {o a : E} {T id : String} {name : Str} {eo e : Expr} {es : List Expr} {apos cpos : Pos} (hK : X.K = G.K) (hT : m.ty.nm = T) (pa : PlainAttrs T) (slot : Slot T name id) (hty : typeOf (.builtin id) = pure (.type "method_descriptor"))
    (hm : MtR X id (rdM G (pmt m))) (ho : PE X eo (RE G cd P cl o)) (ha : PA X (e :: es) (RL G cd P cl a)) (hbase : attributeBase eo name X.env (eval eo X.env) = eval eo X.env)
    (hfew : ((backTo cpos (starEach (e :: es) X.env)).all (fun x => !x.1) && (backToKw cpos (keywordEach [] X.env)).all (fun x => x.1.isSome)
      && decide ((e :: es).length + ([] : List Keyword).length + (if ([] : List Keyword).isEmpty then 0 else 1) < 30)) = true)
    (hline : (apos.endLine == cpos.line) = true) (hs : starEach (e :: es) X.env = (false, eval e X.env) :: starEach es X.env) (hplain : (backTo cpos (starEach es X.env)).any (·.1) = false) :
    PE X (.Call (.Attribute eo name apos) (e :: es) [] cpos) (RE G cd P cl (.mt m o a)) :=
  (pe_bm pa slot hty hm ho ha hbase hfew hline hs hplain).imp fun σ H Q ⟨ρ, σp, hp, w, h', sr, wf, ev, g⟩ => by
    obtain ⟨x, h1, xs, h2, e1, e2, e3, e4⟩ := mt_split ev
    refine ⟨ρ, σp, hp, x, h1, sr, wf, e1, fun u1 H1 ρ1 x1 w1 r1 => ⟨?_, ρ1, σp, h1, xs, h2, sr.mono x1, w1, e3, fun us H2 ρ2 x2 w2 r2 => ?_⟩⟩
    · rw [← hT, hK]; exact okT_rep w1 r1 e2
    · exact ⟨ρ2, x, xs, h2, w, h', r1.mono x2, r2, w2, e4, g.mono (x1.trans x2)⟩
end
end Mi
set_option Elab.async false
set_option linter.all false
set_option maxRecDepth 100000
set_option maxHeartbeats 2000000
/-! Mi G: what loops walk -/
namespace Mi
open PySem PySem.Spec PyProof.Rows L2

def itAt (i : It1) (h : AH) (j : Nat) : Option (Option PV) :=
  match i with
  | .fix xs => some xs[j]?
  | .live e l => (seqOf (.ref l) h).map fun ys => (ys[j]?).map fun x => if e then .tup [.int j, x] else x
inductive Runs {β : Type} (f : Step β) (it : It1) : Nat → Nat → β → AH → β × Bool → AH → Prop
  | stop {j : Nat} {b : β} {h : AH} : itAt it h j = some none → Runs f it 0 j b h (b, false) h
  | out {j : Nat} {b b' : β} {h h' : AH} {x : PV} : itAt it h j = some (some x) → f x b h = some ((b', true), h') → Runs f it 1 j b h (b', true) h'
  | next {m j : Nat} {b b1 : β} {h h1 h' : AH} {x : PV} {r : β × Bool} : itAt it h j = some (some x) → f x b h = some ((b1, false), h1) → Runs f it m (j + 1) b1 h1 r h' → Runs f it (m + 1) j b h r h'
theorem runsF {β : Type} {f : Step β} : ∀ (xs pre : List PV) {b : β} {h : AH} {r : β × Bool} {h' : AH}, loopF f xs b h = some (r, h') → ∃ m, Runs f (.fix (pre ++ xs)) m pre.length b h r h'
  | [], pre, b, h, r, h', e => by
    cases e
    exact ⟨0, .stop (by simp [itAt])⟩
  | x :: xs, pre, b, h, r, h', e => by
    have hx : itAt (.fix (pre ++ x :: xs)) h pre.length = some (some x) := by simp [itAt]
    unfold loopF at e
    split at e
    · rename_i b' h1 q
      cases e
      exact ⟨1, .out hx q⟩
    · rename_i b' h1 q
      obtain ⟨m, hm⟩ := runsF xs (pre ++ [x]) e
      rw [List.append_assoc, List.length_append] at hm
      exact ⟨m + 1, .next hx q hm⟩
    · cases e
theorem runsV {β : Type} {f : Step β} {e : Bool} {l : Nat} : ∀ (n i : Nat) {b : β} {h : AH} {r : β × Bool} {h' : AH}, loopV f e l n i b h = some (r, h') → ∃ m, Runs f (.live e l) m i b h r h'
  | 0, i, b, h, r, h', q => by
    unfold loopV at q
    split at q
    · rename_i ys hy
      split at q
      · rename_i hl
        cases q
        refine ⟨0, .stop ?_⟩
        show (seqOf (.ref l) h).map _ = _
        rw [hy, Option.map_some, List.getElem?_eq_none hl]; rfl
      · cases q
    · cases q
  | n + 1, i, b, h, r, h', q => by
    unfold loopV at q
    split at q
    · rename_i ys hy
      split at q
      · rename_i x hx
        have hx : itAt (.live e l) h i = some (some (if e then .tup [.int i, x] else x)) := by
          show (seqOf (.ref l) h).map _ = _
          rw [hy, Option.map_some, hx]; rfl
        split at q
        · rename_i b' h1 z
          cases q
          exact ⟨1, .out hx z⟩
        · rename_i b' h1 z
          obtain ⟨m, hm⟩ := runsV n (i + 1) q
          exact ⟨m + 1, .next hx z hm⟩
        · cases q
      · cases q
    · cases q
theorem walk_runs {β : Type} {f : Step β} {it : It1} {b : β} {h : AH} {r : β × Bool} {h' : AH} (e : walk f it b h = some (r, h')) : ∃ m, Runs f it m 0 b h r h' := by
  cases it with
  | fix xs => exact runsF xs [] e
  | live q l =>
    have e : (match seqOf (.ref l) h with | some xs => loopV f q l xs.length 0 b h | none => none) = some (r, h') := e
    split at e
    · exact runsV _ 0 e
    · cases e

/-- as Rep, or a pair just given out -/
def RepW (wk : Bool) (K : PySem.W.Frag) (ρ : List Addr) (H : Hp) (x : PV) (v : V) : Prop := Rep K ρ H x v ∨ (wk = true ∧ ∃ a xs vs, x = .tup xs ∧ v = .ref a ∧ SqT K H a vs ∧ Reps K ρ H xs vs)
structure YldOk (wk : Bool) (G : Gs) (ρ : List Addr) (H : Hp) (h : AH) (H' : Hp) (x : PV) (v : V) : Prop where
  ext : Ext ρ ρ H H'
  wf : Wf G ρ h H'
  rep : RepW wk G.K ρ H' x v
structure ItR (wk : Bool) (G : Gs) (ρ0 : List Addr) (H0 : Hp) (i : It1) (J : It) : Prop where
  stop : ∀ ρ H h j, Sub ρ0 ρ H0 H → Wf G ρ h H → itAt i h j = some none → J.stop j H
  go : ∀ ρ H h j x, Sub ρ0 ρ H0 H → Wf G ρ h H → itAt i h j = some (some x) → J.go j H
  yld : ∀ ρ H h j x v H', Sub ρ0 ρ H0 H → Wf G ρ h H → itAt i h j = some (some x) → J.yld j H v H' → YldOk wk G ρ H h H' x v
theorem YldOk.here {wk : Bool} {G : Gs} {ρ : List Addr} {H : Hp} {h : AH} {x : PV} {v : V} (w : Wf G ρ h H) (r : Rep G.K ρ H x v) : YldOk wk G ρ H h H x v := ⟨Ext.refl, w, .inl r⟩
theorem YldOk.pair {G : Gs} {ρ : List Addr} {H : Hp} {h : AH} {xs : List PV} {vs : List V} {T : Addr} (w : Wf G ρ h H) (hT : H T = none) (r : Reps G.K ρ H xs vs) : YldOk true G ρ H h (upd H T (.tup vs)) (.tup xs) (.ref T) :=
  ⟨Ext.new hT, w.new hT, .inr ⟨rfl, T, xs, vs, rfl, rfl, .inl (.inl upd_same), r.mono (Ext.new hT)⟩⟩

section
variable {G : Gs} {ρ : List Addr} {H : Hp}
theorem it_tup {a : Addr} {xs : List PV} {vs : List V} (hq : TupP G.K H a vs) (r : Reps G.K ρ H xs vs) : ItR false G ρ H (.fix xs) (Itt G.K a) where
  stop := fun ρ' H' h j e w q => by
    have q : xs[j]? = none := Option.some.inj q
    exact ⟨vs, (e.tup hq).sq, by rw [← r.length]; exact List.getElem?_eq_none_iff.mp q⟩
  go := fun ρ' H' h j x e w q => by
    have q : xs[j]? = some x := Option.some.inj q
    obtain ⟨v, h1, _⟩ := r.get q
    exact ⟨vs, v, (e.tup hq).sq, h1⟩
  yld := fun ρ' H' h j x v H2 e w q y => by
    have q : xs[j]? = some x := Option.some.inj q
    obtain ⟨u, h1, h2⟩ := r.get q
    obtain ⟨rfl, y⟩ := y
    have := y vs (e.tup hq).sq
    rw [h1] at this; cases this
    exact .here w (h2.sub e)
theorem live_at {e : Bool} {h : AH} {l j : Nat} {x : Option PV} (q : itAt (.live e l) h j = some x) : ∃ ys, seqOf (.ref l) h = some ys ∧ x = (ys[j]?).map fun x => if e then .tup [.int j, x] else x := by
  have q : (seqOf (.ref l) h).map (fun ys => (ys[j]?).map fun x => if e then PV.tup [.int j, x] else x) = some x := q
  cases z : seqOf (.ref l) h with
  | none => rw [z] at q; cases q
  | some ys => rw [z] at q; cases q; exact ⟨ys, rfl, rfl⟩
theorem it_list {a : Addr} {l : Nat} (ha : ρ[l]? = some a) : ItR false G ρ H (.live false l) (Itl G.K a) where
  stop := fun ρ' H' h j e w q => by
    obtain ⟨ys, q, z⟩ := live_at q
    obtain ⟨vs, h1, h2⟩ := seq_refL w (e.get _ _ ha) q
    refine ⟨vs, h1, ?_⟩
    rw [← h2.length]
    cases y : ys[j]? with
    | none => exact List.getElem?_eq_none_iff.mp y
    | some x => rw [y] at z; cases z
  go := fun ρ' H' h j x e w q => by
    obtain ⟨ys, q, z⟩ := live_at q
    obtain ⟨vs, h1, h2⟩ := seq_refL w (e.get _ _ ha) q
    cases y : ys[j]? with
    | none => rw [y] at z; cases z
    | some u =>
      obtain ⟨v, h3, _⟩ := h2.get y
      exact ⟨vs, v, h1, h3⟩
  yld := fun ρ' H' h j x v H2 e w q y => by
    obtain ⟨ys, q, z⟩ := live_at q
    obtain ⟨vs, h1, h2⟩ := seq_refL w (e.get _ _ ha) q
    cases yy : ys[j]? with
    | none => rw [yy] at z; cases z
    | some u =>
      rw [yy] at z; cases z
      obtain ⟨v', h3, h4⟩ := h2.get yy
      obtain ⟨rfl, y⟩ := y
      have := y vs h1
      rw [h3] at this; cases this
      exact .here w h4
theorem it_enumL {a : Addr} {l : Nat} (ha : ρ[l]? = some a) : ItR true G ρ H (.live true l) (Ite G.K a) where
  stop := fun ρ' H' h j e w q => by
    obtain ⟨ys, q, z⟩ := live_at q
    obtain ⟨vs, h1, h2⟩ := seq_refL w (e.get _ _ ha) q
    refine ⟨vs, h1, ?_⟩
    rw [← h2.length]
    cases y : ys[j]? with
    | none => exact List.getElem?_eq_none_iff.mp y
    | some x => rw [y] at z; cases z
  go := fun ρ' H' h j x e w q => by
    obtain ⟨ys, q, z⟩ := live_at q
    obtain ⟨vs, h1, h2⟩ := seq_refL w (e.get _ _ ha) q
    cases y : ys[j]? with
    | none => rw [y] at z; cases z
    | some u =>
      obtain ⟨v, h3, _⟩ := h2.get y
      exact ⟨vs, v, h1, h3⟩
  yld := fun ρ' H' h j x v H2 e w q y => by
    obtain ⟨ys, q, z⟩ := live_at q
    obtain ⟨vs, h1, h2⟩ := seq_refL w (e.get _ _ ha) q
    cases yy : ys[j]? with
    | none => rw [yy] at z; cases z
    | some u =>
      rw [yy] at z; cases z
      obtain ⟨v', h3, h4⟩ := h2.get yy
      obtain ⟨T, y', rfl, hT, rfl, y⟩ := y
      have := y vs h1
      rw [h3] at this; cases this
      exact .pair w hT (.cons (.int _) (.cons h4 .nil))
theorem it_range {lo : Int} {n : Nat} : ItR false G ρ H (.fix ((List.range n).map fun (k : Nat) => .int (lo + k))) (Itr lo n) where
  stop := fun ρ' H' h j e w q => by
    have q : ((List.range n).map fun (k : Nat) => PV.int (lo + k))[j]? = none := Option.some.inj q
    have := List.getElem?_eq_none_iff.mp q
    show n ≤ j
    simpa using this
  go := fun ρ' H' h j x e w q => by
    have q : ((List.range n).map fun (k : Nat) => PV.int (lo + k))[j]? = some x := Option.some.inj q
    have := (List.getElem?_eq_some_iff.mp q).1
    show j < n
    simpa using this
  yld := fun ρ' H' h j x v H2 e w q y => by
    have q : ((List.range n).map fun (k : Nat) => PV.int (lo + k))[j]? = some x := Option.some.inj q
    obtain ⟨hj, q⟩ := List.getElem?_eq_some_iff.mp q
    simp at q
    obtain ⟨rfl, rfl⟩ := y
    subst q
    exact .here w (.int _)
theorem it_str {s : Sg} : ItR false G ρ H (.fix (s.map fun c => .str [c])) (Its (toS s)) where
  stop := fun ρ' H' h j e w q => by
    have q : (s.map fun c => PV.str [c])[j]? = none := Option.some.inj q
    have := List.getElem?_eq_none_iff.mp q
    show (toS s).cps.size ≤ j
    simpa [toS] using this
  go := fun ρ' H' h j x e w q => by
    have q : (s.map fun c => PV.str [c])[j]? = some x := Option.some.inj q
    have := (List.getElem?_eq_some_iff.mp q).1
    show j < (toS s).cps.size
    simpa [toS] using this
  yld := fun ρ' H' h j x v H2 e w q y => by
    have q : (s.map fun c => PV.str [c])[j]? = some x := Option.some.inj q
    obtain ⟨rfl, c, hc, rfl⟩ := y
    have hc : s[j]? = some c := by simpa [toS] using hc
    rw [List.getElem?_map, hc] at q
    cases q
    exact .here w (.str _)
theorem it_zipT {a b : Addr} {xs ys : List PV} {vs us : List V} (hq : TupP G.K H a vs) (r : Reps G.K ρ H xs vs) (hq2 : TupP G.K H b us) (r2 : Reps G.K ρ H ys us) : ItR true G ρ H (.fix ((xs.zip ys).map fun p => .tup [p.1, p.2])) (RZ.ItzT G.K a b) where
  stop := fun ρ' H' h j e w q => by
    have q : ((xs.zip ys).map fun p => PV.tup [p.1, p.2])[j]? = none := Option.some.inj q
    have := List.getElem?_eq_none_iff.mp q
    refine ⟨vs, us, (e.tup hq).sq, (e.tup hq2).sq, ?_⟩
    rw [← r.length, ← r2.length]
    simp at this
    omega
  go := fun ρ' H' h j x e w q => by
    have q : ((xs.zip ys).map fun p => PV.tup [p.1, p.2])[j]? = some x := Option.some.inj q
    have hj := (List.getElem?_eq_some_iff.mp q).1
    simp at hj
    have hj := Nat.lt_min.mp hj
    obtain ⟨v, h1, _⟩ := r.get (List.getElem?_eq_getElem hj.1)
    obtain ⟨u, h2, _⟩ := r2.get (List.getElem?_eq_getElem hj.2)
    exact ⟨vs, us, v, u, (e.tup hq).sq, (e.tup hq2).sq, h1, h2⟩
  yld := fun ρ' H' h j x v H2 e w q y => by
    have q : ((xs.zip ys).map fun p => PV.tup [p.1, p.2])[j]? = some x := Option.some.inj q
    obtain ⟨hj, q⟩ := List.getElem?_eq_some_iff.mp q
    simp at hj q
    have hj := Nat.lt_min.mp hj
    subst q
    obtain ⟨v1, h1, r1⟩ := r.get (List.getElem?_eq_getElem hj.1)
    obtain ⟨u1, h2, r2⟩ := r2.get (List.getElem?_eq_getElem hj.2)
    obtain ⟨T, x', y', rfl, hT, rfl, y1, y2⟩ := y
    have e1 := y1 vs (e.tup hq).sq
    have e2 := y2 us (e.tup hq2).sq
    rw [h1] at e1; cases e1
    rw [h2] at e2; cases e2
    exact .pair w hT (.cons (r1.sub e) (.cons (r2.sub e) .nil))
end
end Mi
set_option Elab.async false
set_option linter.all false
set_option maxRecDepth 100000
set_option maxHeartbeats 2000000
/-! Mi U: enumerate of a tuple -/
namespace Mi
open PySem PySem.Spec PyProof.Rows L2

theorem meets_enumerate_newT {v : Value} {o : Obj} {H : Heap → Prop} (B : Begins v o H) :
    Meets (Builtin.«enumerate.__new__» ⟨[.type "enumerate", v], []⟩) (fun _ R s => H s.heap ∧
      R (.ok (.ret (.ref (s.heap.push o).objs.size))) { s with heap := (s.heap.push o).push { cls := .type "enumerate", data := .fields #[.none, .bool false, .ref s.heap.objs.size, rawInt 0, .none, .none] } }) :=
  .of_wp fun prog w A R s h => by
    obtain ⟨hp, g, d, tk, os⟩ := s; obtain ⟨h1, h⟩ := h
    have hsub := sub_enumerate
    have q1 : ∀ {A' : Around} {E : Value → Shared → Prop} {Q : Value → Shared → Prop}, Q (.ref hp.objs.size) ⟨hp.push o, g, d, tk, os⟩ → wpAny (model prog w) A' (pyIter v) Q E ⟨hp, g, d, tk, os⟩ :=
      fun q => B.iter prog w _ _ ⟨hp, g, d, tk, os⟩ _ h1 q
    wp_walk using q1
    refine wpAny_stack_any fun st => wpAny_pure ?_
    split
    · rename_i c _ _ _ _ _
      cases (c == Value.type "enumerate")
      · wp_walk using q1
        exact ⟨_, rfl, h⟩
      · wp_walk using q1
        exact ⟨_, rfl, h⟩
    · wp_walk using q1
      exact ⟨_, rfl, h⟩
section
variable {prog : Program} {w : World} {A : Around} {E : Value → Shared → Prop} {s : Shared}
theorem call_enumT {v : Value} {o : Obj} {H : Heap → Prop} {Q : Value → Shared → Prop} (B : Begins v o H) (h1 : H s.heap)
    (h : ∀ h', IsEnum h' (s.heap.objs.size + 1) s.heap.objs.size 0 .none → h'.get? s.heap.objs.size = some o → h'.objs.size = s.heap.objs.size + 2 →
      (∀ b o, s.heap.get? b = some o → h'.get? b = some o) → Q (.ref (s.heap.objs.size + 1)) { s with heap := h' }) :
    wpAny (model prog w) A (call (.type "enumerate") [v]) Q E s := by
  refine callType_new F.called_enumerate (by decide) (F.typeCall_enumerate_1 _) (F.newCall_enumerate_1 _) (fun obj => F.args_object_init_2 obj _) F.entry_enumerate_new
    (meets_enumerate_newT B) ⟨h1, ?_⟩
  have hz : (s.heap.push o).objs.size = s.heap.objs.size + 1 := Heap.size_push ..
  show _ ∧ _
  rw [hz]
  have he : IsEnum ((s.heap.push o).push { cls := .type "enumerate", data := .fields #[.none, .bool false, .ref s.heap.objs.size, rawInt 0, .none, .none] }) (s.heap.objs.size + 1) s.heap.objs.size 0 .none := by
    have := Heap.get?_push_size (s.heap.push o) (o := { cls := .type "enumerate", data := .fields #[.none, .bool false, .ref s.heap.objs.size, rawInt 0, .none, .none] }) rfl
    rw [hz] at this; exact this
  refine ⟨⟨_, he, rfl⟩, h _ he (Heap.get?_push_of_some _ (Heap.get?_push_size _ B.free)) (by rw [Heap.size_push, hz]) fun b o x => Heap.get?_push_of_some _ (Heap.get?_push_of_some _ x)⟩
end
/-- the tuple at a, each item in a new pair -/
def IteT (K : PySem.W.Frag) (a : Addr) : It :=
  ⟨fun i H => ∃ (xs : List V) (x : V), SqT K H a xs ∧ xs[i]? = some x, fun i H v H' => ∃ T x, v = .ref T ∧ H T = none ∧ H' = upd H T (.tup [.int (i : Nat), x]) ∧ ∀ xs, SqT K H a xs → xs[i]? = some x, fun i H => ∃ xs : List V, SqT K H a xs ∧ xs.length ≤ i⟩
theorem turn_enumT {P : Program} {w : World} {K : PySem.W.Frag} {elts : List Expr} {kk : Nat} {tpos : Pos} (a e it : Addr) :
    Turn P w K (.Tuple elts kk tpos) (IteT K a) [e, it] e (fun i h => (∃ old, IsEnum h e it ((i : Nat) : Int) old) ∧ h.IsTupleIter it a i ∧ e ≠ it ∧ a ≠ it ∧ a ≠ e) where
  mem := by simp
  obj := fun i h st b hb => by
    obtain ⟨⟨old, he⟩, ⟨o, ho, hc, hd⟩, _⟩ := st
    have e' : b = e ∨ b = it := by simpa using hb
    rcases e' with z | z
    · rw [z]; exact ⟨_, he, fun v q => nomatch q⟩
    · rw [z]; exact ⟨o, ho, fun v q => by rw [hd] at q; cases q⟩
  keep := fun i h h' st k => let ⟨⟨old, he⟩, hi, hne⟩ := st; ⟨⟨old, k e (by simp) _ he⟩, hi.at fun o q => k it (by simp) o q, hne⟩
  item := by
    intro X hP hw hK hc i pins s σ H E I hf st hg
    subst hP hw hK
    obtain ⟨⟨old, he⟩, hit, hne, hai, hae⟩ := st
    obtain ⟨xs, x, hq, hx⟩ := hg
    obtain ⟨its, rv, p, hz⟩ := I.tuple hq
    obtain ⟨u, hu, ru⟩ := rv.get hx
    have hel : e < s.heap.objs.size := Heap.lt_size he
    have hil : it < s.heap.objs.size := by obtain ⟨_, q, _⟩ := hit; exact Heap.lt_size q
    have hu' : its.toArray[i]? = some u := by simpa using hu
    have D := Draws.tuple (prog := X.prog) (w := X.w) (A := X.A.in1) (I.ok.hd hc) it a hai its.toArray
    refine wpAny_pyNext_enum_itemD D he ⟨hit, show s.heap.IsTuple a its.toArray from p⟩ (Array.getElem?_eq_some_iff.mp hu').1 hne (by simp [hne, Ne.symm hae]) fun y h' tk hy ho hit' hT hsz hk => ?_
    rw [hu'] at hy; cases hy
    refine ⟨_, rfl, wpAny_letOwnedTupleGo_enum (s := { s with heap := h', toks := tk + 1 }) ho fun h'' he' sb => ?_⟩
    have hT2 : h''.get? s.heap.objs.size = some { cls := .type "tuple", data := .seq #[.int i tk, u] } := (sb.2 _ (Nat.ne_of_gt hel)).trans hT
    have new : ObjOk X.prog X.w (upd H s.heap.objs.size (.tup [.int (i : Nat), x])) h'' s.heap.objs.size (.tup [.int (i : Nat), x]) :=
      ⟨by show 2 ≤ sizeLine; decide, [.int i tk, u], .cons ⟨_, rfl⟩ (.cons ru .nil), ⟨_, hT2, rfl, _, rfl⟩⟩
    have I1 : Inv X pins σ (upd H s.heap.objs.size (.tup [.int (i : Nat), x])) { s with heap := h'', toks := tk + 1 } :=
      I.turnedNew (ch := [e, it]) (fun b ob hb q => (sb.2 b (fun z => hb (by simp [z]))).trans (hk b ob (fun z => hb (by simp [z])) (fun z => hb (by simp [z])) q)) hf (Nat.le_refl _) new
    refine ⟨.ref s.heap.objs.size, _, I1, rfl, ⟨_, x, rfl, I.hok.fresh (Nat.le_refl _), rfl, fun ys hy => by rw [I.tuple_inj hy hq]; exact hx⟩, ⟨⟨u, ?_⟩, hit'.1.at fun o q => (sb.2 it (Ne.symm hne)).trans q, hne, hai, hae⟩, fun b hb => ?_⟩
    · have e1 : ((i + 1 : Nat) : Int) = (i : Int) + 1 := by omega
      rw [e1]; exact he'
    · have hb' : b < s.heap.objs.size := by
        have e' : b = e ∨ b = it := by simpa using hb
        rcases e' with z | z
        · rw [z]; exact hel
        · rw [z]; exact hil
      rw [upd_ne (Nat.ne_of_lt hb')]
      exact (hf b hb).1
  done := by
    intro X hP hw hK hc i pins s σ H E I hf st hg
    subst hP hw hK
    obtain ⟨⟨old, he⟩, hit, hne, hai, hae⟩ := st
    obtain ⟨xs, hq, hx⟩ := hg
    obtain ⟨its, rv, p, hz⟩ := I.tuple hq
    obtain ⟨f0, f1, f2, f3, f4, f5⟩ := hf it (by simp)
    have hl := rv.length
    have hn : its.toArray[i]? = none := by simp; omega
    have D : Draws X.prog X.w X.A.in1 it [it, a] i (fun _ _ => False) (fun j h => j = i ∧ h.IsTupleIter it a i ∧ h.IsTuple a its.toArray) :=
      ⟨fun _ _ st => let ⟨o, ho, _⟩ := st.2.1; ⟨o, ho⟩, fun _ _ _ st k => ⟨st.1, st.2.1.at fun o q => k it (by simp) o q, st.2.2.at fun o q => k a (by simp) o q⟩,
        fun j s Q E hj st => absurd st.1 (Nat.ne_of_lt hj), fun s Q E st hE => wpAny_nextOf_tuple_end (I.ok.hd hc) st.2.1 st.2.2 hn hE⟩
    exact wpAny_pyNext_enum_endD D he ⟨rfl, hit, show s.heap.IsTuple a its.toArray from p⟩ fun h' eb => ⟨rfl, I.turned (t' := s.toks) (fun b o hb q => eb b o hb q) f0 f1 f3 f4 f5⟩
  self := fun A i s Q E st h => let ⟨⟨_, he⟩, _⟩ := st; wpAny_pyIter_enum he h
def iEnumT (K : PySem.W.Frag) (ta : TA) : TI := fun σ H R => ta σ H fun vs H1 => ∃ a xs, vs = [.ref a] ∧ ((SqL K H1 a xs ∧ R (Ite K a) H1) ∨ (SqT K H1 a xs ∧ R (IteT K a) H1))
theorem pi_enumT {X : Cx} {e : Expr} {ta : TA} {p pos tpos : Pos} {elts : List Expr} {kk : Nat} (hg : Gl X "enumerate") (hm : X.mg "enumerate" = none) (ha : PA X [e] ta) (hs : starEach [e] X.env = [(false, eval e X.env)] := by rfl) :
    PI X (.Tuple elts kk tpos) (.Call (.Name "enumerate" p) [e] [] pos) (iEnumT X.K ta) := by
  refine ⟨fun pins s σ H R I h => ?_⟩
  refine Call_ (ld_blt I hg hm boot_enumerate (PyProof.Rows.callWith_type1 (thn (ha.run pos pins s σ H _ I h) fun us s1 ⟨vs, H1, I1, r1, q1⟩ => ?_) hs rfl))
  obtain ⟨a, xs, ex, q1⟩ := q1
  subst ex
  cases r1 with
  | cons r rr =>
    cases rr
    cases r
    have fresh2 : ∀ c, c ∈ [s1.heap.objs.size + 1, s1.heap.objs.size] → FpOk X pins H1 c := fun c hb => by
      have e' : c = s1.heap.objs.size + 1 ∨ c = s1.heap.objs.size := by simpa using hb
      have hle : s1.heap.objs.size ≤ c := by
        rcases e' with z | z
        · rw [z]; exact Nat.le_add_right _ _
        · rw [z]; exact Nat.le_refl _
      exact I1.fpOk hle (I1.hok.fresh hle)
    rcases q1 with ⟨hq, q⟩ | ⟨hq, q⟩
    · obtain ⟨its, rv, p', hz⟩ := I1.list hq
      refine call_enumerate_list p'.isList fun h' he hit hsz hk => wpAny_pyIter_enum he ?_
      have I2 : Inv X pins σ H1 { s1 with heap := h' } := I1.kept (t' := s1.toks) hk
      exact ⟨s1.heap.objs.size + 1, [s1.heap.objs.size + 1, s1.heap.objs.size], _, _, H1, rfl, I2, turn_enum a (s1.heap.objs.size + 1) s1.heap.objs.size, ⟨⟨.none, he⟩, hit, Nat.succ_ne_self _⟩, fresh2, q⟩
    · obtain ⟨its, rv, p', hz⟩ := I1.tuple hq
      obtain ⟨o1, ho1, _⟩ := id p'
      have hlt := Heap.lt_size ho1
      refine call_enumT (begins_tuple a its.toArray) p' fun h' he hit hsz hk => wpAny_pyIter_enum he ?_
      have I2 : Inv X pins σ H1 { s1 with heap := h' } := I1.kept (t' := s1.toks) hk
      exact ⟨s1.heap.objs.size + 1, [s1.heap.objs.size + 1, s1.heap.objs.size], _, _, H1, rfl, I2, turn_enumT a (s1.heap.objs.size + 1) s1.heap.objs.size, ⟨⟨.none, he⟩, ⟨_, hit, rfl, rfl⟩, Nat.succ_ne_self _, Nat.ne_of_lt hlt, Nat.ne_of_lt (Nat.lt_succ_of_lt hlt)⟩, fresh2, q⟩
end Mi
set_option Elab.async false
set_option linter.all false
set_option maxRecDepth 100000
set_option maxHeartbeats 2000000
/-! Mi H: walks, targets, for -/
namespace Mi
open PySem PySem.Spec PyProof.Rows L2

section
variable {G : Gs} {ρ : List Addr} {H : Hp}
theorem it_enumT {a : Addr} {xs : List PV} {vs : List V} (hq : TupP G.K H a vs) (r : Reps G.K ρ H xs vs) : ItR true G ρ H (.fix (xs.zipIdx.map fun p => .tup [.int (p.2 : Nat), p.1])) (IteT G.K a) where
  stop := fun ρ' H' h j e w q => by
    have q : (xs.zipIdx.map fun p => PV.tup [.int (p.2 : Nat), p.1])[j]? = none := Option.some.inj q
    have := List.getElem?_eq_none_iff.mp q
    refine ⟨vs, (e.tup hq).sq, ?_⟩
    rw [← r.length]
    simpa using this
  go := fun ρ' H' h j x e w q => by
    have q : (xs.zipIdx.map fun p => PV.tup [.int (p.2 : Nat), p.1])[j]? = some x := Option.some.inj q
    have hj := (List.getElem?_eq_some_iff.mp q).1
    have hj : j < xs.length := by simpa using hj
    obtain ⟨v, h1, _⟩ := r.get (List.getElem?_eq_getElem hj)
    exact ⟨vs, v, (e.tup hq).sq, h1⟩
  yld := fun ρ' H' h j x v H2 e w q y => by
    have q : (xs.zipIdx.map fun p => PV.tup [.int (p.2 : Nat), p.1])[j]? = some x := Option.some.inj q
    obtain ⟨hj, q⟩ := List.getElem?_eq_some_iff.mp q
    have hj : j < xs.length := by simpa using hj
    simp at q
    subst q
    obtain ⟨v1, h1, r1⟩ := r.get (List.getElem?_eq_getElem hj)
    obtain ⟨T, x', rfl, hT, rfl, y1⟩ := y
    have e1 := y1 vs (e.tup hq).sq
    rw [h1] at e1; cases e1
    exact .pair w hT (.cons (.int _) (.cons (r1.sub e) .nil))
end

def E.weak : E → Bool
  | .enum _ => true
  | .zip _ => true
  | _ => false
def E.isTup : E → Bool
  | .tup _ => true
  | _ => false
def rdI (wk : Bool) (G : Gs) (cd : Option (Addr × Addr)) (f : Env1 → AH → Res It1) : TI := fun σ H R => ∃ ρ σp h i h', SR G cd ρ H σp σ ∧ Wf G ρ h H ∧ f σp h = some (i, h') ∧ ∀ J H' ρ', Ext ρ ρ' H H' → Wf G ρ' h' H' → ItR wk G ρ' H' i J → R J H'
section
variable {X : Cx} {G : Gs} {cd : Option (Addr × Addr)} {P : Pg} {cl : Cl}
abbrev RI (G : Gs) (cd : Option (Addr × Addr)) (P : Pg) (cl : Cl) (e : E) : TI := rdI e.weak G cd (evI P cl e)
theorem _root_.L2.PI.imp {tg e : Expr} {t t' : TI} (p : PI X tg e t) (h : ∀ σ H Q, t' σ H Q → t σ H Q) : PI X tg e t' := ⟨fun pins s σ H Q I q => p.run pins s σ H Q I (h σ H Q q)⟩
theorem rep_seqT {K : PySem.W.Frag} {ρ : List Addr} {H : Hp} {xs : List PV} {v : V} (r : Rep K ρ H (.tup xs) v) : ∃ a vs, v = .ref a ∧ TupP K H a vs ∧ Reps K ρ H xs vs := by
  cases r with | tup h r => exact ⟨_, _, rfl, h, r⟩
theorem rep_ref {K : PySem.W.Frag} {ρ : List Addr} {H : Hp} {l : Nat} {v : V} (r : Rep K ρ H (.ref l) v) : ∃ a, v = .ref a ∧ ρ[l]? = some a := by
  cases r with | ref h => exact ⟨_, rfl, h⟩

theorem itr_inv {e : E} {σ : Env1} {h : AH} {i : It1} {h' : AH} (q : evI P cl (.itr e) σ h = some (i, h')) :
    (∃ xs, evE P cl e σ h = some (.tup xs, h') ∧ i = .fix xs) ∨ (∃ s, evE P cl e σ h = some (.str s, h') ∧ i = .fix (s.map fun c => .str [c])) ∨ ∃ l xs, evE P cl e σ h = some (.ref l, h') ∧ seqOf (.ref l) h' = some xs ∧ i = .live false l := by
  unfold evI at q
  split at q
  · cases q; exact .inl ⟨_, ‹_›, rfl⟩
  · cases q; exact .inr (.inl ⟨_, ‹_›, rfl⟩)
  · split at q
    · cases q; exact .inr (.inr ⟨_, _, ‹_›, ‹_›, rfl⟩)
    · cases q
  · cases q
theorem enum_inv {e : E} {σ : Env1} {h : AH} {i : It1} {h' : AH} (q : evI P cl (.enum e) σ h = some (i, h')) :
    (∃ xs, evE P cl e σ h = some (.tup xs, h') ∧ i = .fix (xs.zipIdx.map fun p => .tup [.int (p.2 : Nat), p.1])) ∨ ∃ l xs, evE P cl e σ h = some (.ref l, h') ∧ seqOf (.ref l) h' = some xs ∧ i = .live true l := by
  unfold evI at q
  split at q
  · cases q; exact .inl ⟨_, ‹_›, rfl⟩
  · split at q
    · cases q; exact .inr ⟨_, _, ‹_›, ‹_›, rfl⟩
    · cases q
  · cases q
theorem ri_itr {tg e : Expr} {a : E} (hK : X.K = G.K) (he : PE X e (RE G cd P cl a)) : PI X tg e (RI G cd P cl (.itr a)) := by
  refine ⟨fun pins s σ H R I ⟨ρ, σp, h, i, h', sr, wf, ev, g⟩ => ?_⟩
  rcases itr_inv ev with ⟨xs, e1, rfl⟩ | ⟨t, e1, rfl⟩ | ⟨l, xs, e1, hx, rfl⟩
  · refine (pi_tup (tg := tg) he).run pins s σ H R I ⟨ρ, σp, h, _, h', sr, wf, e1, fun u H1 ρ1 x1 w1 r1 => ?_⟩
    obtain ⟨b, vs, rfl, hq, rs⟩ := rep_seqT r1
    rw [hK]
    exact ⟨b, rfl, ⟨vs, hq.sq⟩, g _ H1 ρ1 x1 w1 (it_tup hq rs)⟩
  · refine (pi_str (tg := tg) he).run pins s σ H R I ⟨ρ, σp, h, _, h', sr, wf, e1, fun u H1 ρ1 x1 w1 r1 => ?_⟩
    obtain rfl := r1.str_of
    exact ⟨_, rfl, g _ H1 ρ1 x1 w1 it_str⟩
  · refine (pi_list (tg := tg) he).run pins s σ H R I ⟨ρ, σp, h, _, h', sr, wf, e1, fun u H1 ρ1 x1 w1 r1 => ?_⟩
    obtain ⟨b, rfl, hb⟩ := rep_ref r1
    obtain ⟨vs, h1, h2⟩ := seq_refL w1 hb hx
    rw [hK]
    exact ⟨b, rfl, ⟨vs, h1⟩, g _ H1 ρ1 x1 w1 (it_list hb)⟩
theorem ri_enum {e : Expr} {a : E} {elts : List Expr} {kk : Nat} {tpos p pos : Pos} (hK : X.K = G.K) (hg : Gl X "enumerate") (hm : X.mg "enumerate" = none) (he : PA X [e] (RL G cd P cl (.cons a .nil))) (hs : starEach [e] X.env = [(false, eval e X.env)] := by rfl) :
    PI X (.Tuple elts kk tpos) (.Call (.Name "enumerate" p) [e] [] pos) (RI G cd P cl (.enum a)) := by
  refine (pi_enumT hg hm he hs).imp fun σ H R ⟨ρ, σp, h, i, h', sr, wf, ev, g⟩ => ?_
  have hl : ∀ {v h'}, evE P cl a σp h = some (v, h') → evL P cl (.cons a .nil) σp h = some ([v], h') := fun {v h'} q => by
    show (match evE P cl a σp h with | some (x, h1) => (match evL P cl .nil σp h1 with | some (xs, h2) => some (x :: xs, h2) | none => none) | none => none) = _
    rw [q]; rfl
  rcases enum_inv ev with ⟨xs, e1, rfl⟩ | ⟨l, xs, e1, hx, rfl⟩
  · refine ⟨ρ, σp, h, _, h', sr, wf, hl e1, fun us H1 ρ1 x1 w1 r1 => ?_⟩
    obtain ⟨u, rfl, r2⟩ := reps1 r1
    obtain ⟨b, vs, rfl, hq, rs⟩ := rep_seqT r2
    rw [hK]
    exact ⟨b, vs, rfl, .inr ⟨hq.sq, g _ H1 ρ1 x1 w1 (it_enumT hq rs)⟩⟩
  · refine ⟨ρ, σp, h, _, h', sr, wf, hl e1, fun us H1 ρ1 x1 w1 r1 => ?_⟩
    obtain ⟨u, rfl, r2⟩ := reps1 r1
    obtain ⟨b, rfl, hb⟩ := rep_ref r2
    obtain ⟨vs, h1, h2⟩ := seq_refL w1 hb hx
    rw [hK]
    exact ⟨b, vs, rfl, .inl ⟨h1, g _ H1 ρ1 x1 w1 (it_enumL hb)⟩⟩
theorem ri_range1 {tg e : Expr} {a : E} {p pos : Pos} (hg : Gl X "range") (hm : X.mg "range" = none) (he : PA X [e] (RL G cd P cl (.cons a .nil))) (hs : starEach [e] X.env = [(false, eval e X.env)] := by rfl) :
    PI X tg (.Call (.Name "range" p) [e] [] pos) (RI G cd P cl (.range (.cons a .nil))) := by
  refine (pi_range1 hg hm he hs).imp fun σ H R ⟨ρ, σp, h, i, h', sr, wf, ev, g⟩ => ?_
  unfold evI at ev
  split at ev
  · rename_i j h1 q
    obtain ⟨c, ev⟩ := ite_some ev
    cases ev
    simp only [decide_eq_true_eq] at c
    refine ⟨ρ, σp, h, _, _, sr, wf, q, fun us H1 ρ1 x1 w1 r1 => ?_⟩
    obtain ⟨u, rfl, r2⟩ := reps1 r1
    obtain rfl := r2.int_of
    refine ⟨j, rfl, c.1, c.2, g _ H1 ρ1 x1 w1 ?_⟩
    have := it_range (G := G) (ρ := ρ1) (H := H1) (lo := 0) (n := j.toNat)
    show ItR false G _ _ _ _
    simpa using this
  · rename_i i j h1 q
    exfalso
    unfold evL at q
    split at q
    · rename_i x h2 z
      have : evL P cl .nil σp h2 = some ([], h2) := rfl
      rw [this] at q
      simp at q
    · cases q
  · cases ev
theorem ri_range2 {tg e1 e2 : Expr} {a : E} {p pos : Pos} (hg : Gl X "range") (hm : X.mg "range" = none) (he : PA X [e1, e2] (RL G cd P cl (.cons a (.cons b .nil)))) (hs : starEach [e1, e2] X.env = [(false, eval e1 X.env), (false, eval e2 X.env)] := by rfl) (hs2 : starEach [e2] X.env = [(false, eval e2 X.env)] := by rfl) :
    PI X tg (.Call (.Name "range" p) [e1, e2] [] pos) (RI G cd P cl (.range (.cons a (.cons b .nil)))) := by
  refine (pi_range2 hg hm he hs hs2).imp fun σ H R ⟨ρ, σp, h, i, h', sr, wf, ev, g⟩ => ?_
  unfold evI at ev
  split at ev
  · rename_i j h1 q
    exfalso
    unfold evL at q
    split at q
    · rename_i x h2 z
      split at q
      · rename_i xs h3 z2
        unfold evL at z2
        split at z2
        · have : ∀ h4, evL P cl .nil σp h4 = some ([], h4) := fun _ => rfl
          rw [this] at z2
          simp at z2
          obtain ⟨z2, _⟩ := z2
          subst z2
          simp at q
        · cases z2
      · cases q
    · cases q
  · rename_i j k h1 q
    obtain ⟨c, ev⟩ := ite_some ev
    cases ev
    simp only [decide_eq_true_eq] at c
    refine ⟨ρ, σp, h, _, _, sr, wf, q, fun us H1 ρ1 x1 w1 r1 => ?_⟩
    cases r1 with
    | cons r1 rr =>
      cases rr with
      | cons r2 rr =>
        cases rr
        obtain rfl := r1.int_of
        obtain rfl := r2.int_of
        exact ⟨j, k, rfl, c, g _ H1 ρ1 x1 w1 it_range⟩
  · cases ev
theorem ri_zip {e1 e2 : Expr} {a : E} {elts : List Expr} {kk : Nat} {tpos p pos : Pos} (hK : X.K = G.K) (hg : Gl X "zip") (hm : X.mg "zip" = none) (he : PA X [e1, e2] (RL G cd P cl a))
    (hs : starEach [e1, e2] X.env = (false, eval e1 X.env) :: starEach [e2] X.env := by rfl) (hpl : (backTo pos (starEach [e2] X.env)).any (·.1) = false := by rfl) :
    PI X (.Tuple elts kk tpos) (.Call (.Name "zip" p) [e1, e2] [] pos) (RI G cd P cl (.zip a)) := by
  refine (RZ.pi_zipA hg hm he hs hpl).imp fun σ H R ⟨ρ, σp, h, i, h', sr, wf, ev, g⟩ => ?_
  unfold evI at ev
  split at ev
  · rename_i xs ys h1 q
    cases ev
    refine ⟨ρ, σp, h, _, _, sr, wf, q, fun us H1 ρ1 x1 w1 r1 => ?_⟩
    cases r1 with
    | cons r1 rr =>
      cases rr with
      | cons r2 rr =>
        cases rr
        obtain ⟨b, vs, rfl, hq, rs⟩ := rep_seqT r1
        obtain ⟨b2, vs2, rfl, hq2, rs2⟩ := rep_seqT r2
        rw [hK]
        exact ⟨b, b2, vs, vs2, rfl, .inr ⟨hq.sq, hq2.sq, g _ H1 ρ1 x1 w1 (it_zipT hq rs hq2 rs2)⟩⟩
  · cases ev

/-! ### targets -/
/-- nothing but the target's names is changed -/
def Same (t : E) (σ σ' : L2.St) : Prop := ∀ vs : List Nat, (∀ i ∈ tgVars t, i ∈ vs) → wipe σ' vs = wipe σ vs
theorem wipe_put {σ : L2.St} {i : Nat} {v : Option V} : ∀ {vs : List Nat}, i ∈ vs → wipe (σ.set i v) vs = wipe σ vs
  | w :: vs, h => by
    unfold wipe
    by_cases hm : i ∈ vs
    · rw [wipe_put hm]
    · rcases List.mem_cons.mp h with e | e
      · subst e
        have key : ∀ ws : List Nat, (wipe (σ.set i v) ws).set i none = (wipe σ ws).set i none := fun ws => by
          induction ws with
          | nil => unfold wipe; rw [List.set_set]
          | cons w ws ih =>
            unfold wipe
            by_cases z : w = i
            · subst z; rw [List.set_set, List.set_set, ih]
            · rw [List.set_comm _ _ z, List.set_comm _ _ z, ih]
        exact key vs
      · exact absurd e hm
/-- what a target makes of the state -/
def rdG (G : Gs) (cd : Option (Addr × Addr)) (t : E) : TG := fun v σ H Q => ∃ ρ σp h x σp', SR G cd ρ H σp σ ∧ Wf G ρ h H ∧ RepW t.isTup G.K ρ H x v ∧ bindP t x σp = some σp' ∧ ∀ σ', SR G cd ρ H σp' σ' → Same t σ σ' → Q σ' H
def rdGs (G : Gs) (cd : Option (Addr × Addr)) (t : E) : TGs := fun vs σ H Q => ∃ ρ σp h xs σp', SR G cd ρ H σp σ ∧ Wf G ρ h H ∧ Reps G.K ρ H xs vs ∧ bindPs t xs σp = some σp' ∧ ∀ σ', SR G cd ρ H σp' σ' → Same t σ σ' → Q σ' H
theorem _root_.L2.PG.imp {tg : Expr} {t t' : TG} (p : PG X tg t) (h : ∀ v σ H Q, t' v σ H Q → t v σ H Q) : PG X tg t' := ⟨fun pins s σ H v u Q I r q => p.run pins s σ H v u Q I r (h v σ H Q q)⟩
theorem _root_.L2.PGs.imp {tg : List Expr} {t t' : TGs} (p : PGs X tg t) (h : ∀ v σ H Q, t' v σ H Q → t v σ H Q) : PGs X tg t' := ⟨fun pins s σ H v u Q I r q => p.run pins s σ H v u Q I r (h v σ H Q q)⟩
theorem rg_var {i : Nat} {x : Expr} (h : PG X x (gName i)) : PG X x (rdG G cd (.var i)) :=
  h.imp fun v σ H Q ⟨ρ, σp, hp, x, σp', sr, wf, r, e, g⟩ => by
    cases e
    rcases r with r | ⟨r, _⟩
    · exact g _ (sr.set r i) fun vs hv => wipe_put (hv i (by simp [tgVars]))
    · cases r
theorem rg_tup {a : E} {es : List Expr} {k : Nat} {pos : Pos} (hK : X.K = G.K) (hc : X.calm = true) (h : PGs X es (rdGs G cd a)) (hlen : ∀ xs σ σ', bindPs a xs σ = some σ' → xs.length = es.length)
    (hn : (assignEach es X.env).length = es.length) (hst : (assignEach es X.env).findIdx? (·.1) = none) : PG X (.Tuple es k pos) (rdG G cd (.tup a)) :=
  (pg_tup hc h hn hst).imp fun v σ H Q ⟨ρ, σp, hp, x, σp', sr, wf, r, e, g⟩ => by
    have key : ∃ b xs vs, x = .tup xs ∧ v = .ref b ∧ SqT G.K H b vs ∧ Reps G.K ρ H xs vs := by
      rcases r with r | r
      · cases x with
        | tup xs => obtain ⟨b, vs, rfl, hq, rs⟩ := rep_seqT r; exact ⟨b, xs, vs, rfl, rfl, hq.sq, rs⟩
        | _ => cases e
      · exact r.2
    obtain ⟨b, xs, vs, rfl, rfl, hq, rs⟩ := key
    have e : bindPs a xs σp = some σp' := e
    rw [hK]
    exact ⟨b, vs, rfl, hq, by rw [← rs.length]; exact hlen _ _ _ e, ρ, σp, hp, xs, σp', sr, wf, rs, e, g⟩
theorem rgs_nil : PGs X [] (rdGs G cd .nil) :=
  pgs_nil.imp fun vs σ H Q ⟨ρ, σp, hp, xs, σp', sr, wf, r, e, g⟩ => by
    cases xs with
    | nil => cases r; cases e; exact ⟨rfl, g _ sr fun _ _ => rfl⟩
    | cons x xs => cases e
theorem rgs_cons {a r : E} {ea : Expr} {es : List Expr} (ha : PG X ea (rdG G cd a)) (hr : PGs X es (rdGs G cd r)) (hs : (assignEach (ea :: es) X.env).map (·.2) = assign ea X.env :: (assignEach es X.env).map (·.2)) : PGs X (ea :: es) (rdGs G cd (.cons a r)) :=
  (pgs_cons ha hr hs).imp fun vs σ H Q ⟨ρ, σp, hp, xs, σp', sr, wf, rs, e, g⟩ => by
    cases xs with
    | nil => cases e
    | cons x xs =>
      cases rs with
      | cons r1 rs =>
        have e : (match bindP a x σp with | some σ' => bindPs r xs σ' | none => none) = some σp' := e
        split at e
        · rename_i σ1 q
          exact ⟨_, _, rfl, ρ, σp, hp, x, σ1, sr, wf, .inl r1, q, fun σ' sr' s1 => ⟨ρ, σ1, hp, xs, σp', sr', wf, rs, e, fun σ'' sr'' s2 => g σ'' sr'' fun vs hv => (s2 vs fun i hi => hv i (by simp [tgVars, hi])).trans (s1 vs fun i hi => hv i (by simp [tgVars, hi]))⟩⟩
        · cases e
end
end Mi
set_option Elab.async false
set_option linter.all false
set_option maxRecDepth 100000
set_option maxHeartbeats 2000000
/-! Mi I: statements' readings; for, while; a list that is being made -/
namespace Mi
open PySem PySem.Spec PyProof.Rows L2

section
variable {G : Gs} {ρ : List Addr} {h : AH} {H : Hp}
theorem Wf.nn (w : Wf G ρ h H) {a : Addr} (ha : a ∈ ρ) : H a ≠ none := by
  obtain ⟨l, hl, e⟩ := List.mem_iff_getElem.mp ha
  have ha : ρ[l]? = some a := by rw [← e]; exact List.getElem?_eq_getElem hl
  have hl' : l < h.length := by rw [← w.len]; exact hl
  have r := w.obj l _ a (List.getElem?_eq_getElem hl') ha
  revert r
  cases h[l] with
  | lst xs => rintro ⟨vs, e, _⟩; rw [e]; simp
  | scr xs => rintro ⟨vs, ⟨o, e⟩, _⟩; rw [e]; simp
  | dk xs => rintro ⟨vs, e, _⟩; rw [e]; simp
  | ins c xs => rintro ⟨dx, vs, e, _⟩; rw [e]; simp
/-- a list that is not ours (yet) changed -/
theorem Sub.out {D : Addr} {us vs : List V} (hD : H D = some (.lst us)) : Sub ρ ρ H (upd H D (.lst vs)) := by
  refine ⟨fun _ _ h => h, fun a o u e => ?_, fun a f e => ?_⟩
  · rw [upd_ne]; exact e; intro z; subst z; rw [hD] at e; cases e
  · rw [upd_ne]; exact e; intro z; subst z; rw [hD] at e; cases e
theorem Wf.out {D : Addr} {us vs : List V} (w : Wf G ρ h H) (hD : H D = some (.lst us)) (hn : D ∉ ρ) : Wf G ρ h (upd H D (.lst vs)) :=
  ⟨w.len, fun l o a h1 h2 => (w.obj l o a h1 h2).sub (Sub.out hD) (upd_ne fun z => hn (z ▸ List.mem_of_getElem? h2)), w.inj, w.ct.upd (by rw [hD]; trivial) (by intro _ z; cases z)⟩
theorem Sub.app {D : Addr} : Sub ρ (ρ ++ [D]) H H := ⟨fun l a e => by
  have := (List.getElem?_eq_some_iff.mp e).1
  rw [List.getElem?_append_left this]; exact e, fun _ _ _ e => e, fun _ _ e => e⟩
/-- taken in -/
theorem Wf.adopt {D : Addr} {xs : List PV} {vs : List V} (w : Wf G ρ h H) (hD : H D = some (.lst vs)) (hn : D ∉ ρ) (r : Reps G.K ρ H xs vs) : Wf G (ρ ++ [D]) (h ++ [.lst xs]) H := by
  have ne : ∀ (l : Nat) (a : Addr), ρ[l]? = some a → a ≠ D := fun l a e z => hn (z ▸ List.mem_of_getElem? e)
  refine ⟨by simp [w.len], fun l q a h1 h2 => ?_, fun l l' a h1 h2 m m' => ?_, w.ct⟩
  · rcases snoc_get h1 with ⟨h1, _⟩ | ⟨h1, h1'⟩
    · rcases snoc_get h2 with ⟨h2, _⟩ | ⟨h2, h2'⟩
      · exact (w.obj l q a h1 h2).sub Sub.app rfl
      · have := (List.getElem?_eq_some_iff.mp h1).1
        rw [h2, w.len] at this
        exact absurd this (Nat.lt_irrefl _)
    · rcases snoc_get h2 with ⟨h2, h3⟩ | ⟨h2, h2'⟩
      · rw [h1, w.len] at h3
        exact absurd h3 (Nat.lt_irrefl _)
      · subst h1'; subst h2'; exact ⟨vs, hD, r.sub Sub.app⟩
  · rcases snoc_get h1 with ⟨h1, l1⟩ | ⟨h1, h1'⟩
    · rcases snoc_get h2 with ⟨h2, l2⟩ | ⟨h2, h2'⟩
      · obtain ⟨q, hq, mq⟩ := m
        obtain ⟨q', hq', mq'⟩ := m'
        refine w.inj l l' a h1 h2 ⟨q, ?_, mq⟩ ⟨q', ?_, mq'⟩
        · rw [List.getElem?_append_left (by rw [← w.len]; exact l1)] at hq; exact hq
        · rw [List.getElem?_append_left (by rw [← w.len]; exact l2)] at hq'; exact hq'
      · exact absurd h2' (ne l a h1)
    · rcases snoc_get h2 with ⟨h2, l2⟩ | ⟨h2, h2'⟩
      · exact absurd h1' (ne l' a h2)
      · rw [h1, h2]
theorem Ext.fresh {ρ0 ρ : List Addr} {H0 H : Hp} {D : Addr} {o : HO} (e : Ext ρ0 ρ H0 H) (hD : H0 D = none) : Ext ρ0 ρ H0 (upd H D o) :=
  ⟨e.pre, fun a u h s n => by rw [upd_ne (ne_of_none h hD)]; exact e.keep a u h s n, fun a h => by
    by_cases z : a = D
    · subst z; exact absurd hD h
    · rw [upd_ne z]; exact e.there a h⟩
theorem Ext.take {ρ0 ρ : List Addr} {H0 H : Hp} {D : Addr} (e : Ext ρ0 ρ H0 H) (hD : H0 D = none) : Ext ρ0 (ρ ++ [D]) H0 H := by
  obtain ⟨r, h1, h2⟩ := e.pre
  refine ⟨⟨r ++ [D], by rw [h1, List.append_assoc], fun a ha => ?_⟩, e.keep, e.there⟩
  rcases List.mem_append.mp ha with h | h
  · exact h2 a h
  · rw [List.mem_singleton.mp h]; exact hD
/-- what is apart stays apart -/
theorem Ext.apart {ρ0 ρ : List Addr} {H0 H : Hp} {D : Addr} {vs : List V} (e : Ext ρ0 ρ H0 H) (hD : H0 D = some (.lst vs)) (hn : D ∉ ρ0) : H D = some (.lst vs) ∧ D ∉ ρ := by
  refine ⟨e.keep D _ hD (.inr hn) (fun _ z => nomatch z), fun hc => ?_⟩
  obtain ⟨r, h1, h2⟩ := e.pre
  rw [h1] at hc
  rcases List.mem_append.mp hc with h | h
  · exact hn h
  · rw [h2 D h] at hD; cases hD
end

/-! ### statements -/
def GoS (G : Gs) (cd : Option (Addr × Addr)) (ρ : List Addr) (H : Hp) (h' : AH) (r : Fl × Env1) (D : Ends) : Prop := ∀ σ' H' ρ', Ext ρ ρ' H H' → Wf G ρ' h' H' → SR G cd ρ' H' r.2 σ' →
  match r.1 with
  | .nx => D.nx σ' H'
  | .ct => D.ct σ' H'
  | .brk => D.bk σ' H'
  | .ret v => ∀ u, Rep G.K ρ' H' v u → D.rt u H'
def rdS (G : Gs) (cd : Option (Addr × Addr)) (f : Env1 → AH → Res (Fl × Env1)) : TS := fun D σ H => ∃ ρ σp h r h', SR G cd ρ H σp σ ∧ Wf G ρ h H ∧ f σp h = some (r, h') ∧ GoS G cd ρ H h' r D
theorem GoS.mono {G : Gs} {cd : Option (Addr × Addr)} {ρ ρ' : List Addr} {H H' : Hp} {h' : AH} {r : Fl × Env1} {D : Ends} (e : Ext ρ ρ' H H') (g : GoS G cd ρ H h' r D) : GoS G cd ρ' H' h' r D := fun σ2 H2 ρ2 e2 w s => g σ2 H2 ρ2 (e.trans e2) w s
section
variable {X : Cx} {G : Gs} {cd : Option (Addr × Addr)} {P : Pg} {cl : Cl}
abbrev RS (G : Gs) (cd : Option (Addr × Addr)) (P : Pg) (cl : Cl) (e : S) : TS := rdS G cd (evS P cl e)
def forB (P : Pg) (cl : Cl) (t : E) (b : S) : Step (Fl × Env1) := fun x q h => match bindP t x q.2 with
  | some σ1 => match evS P cl b σ1 h with
    | some ((.nx, σ2), h2) => some (((.nx, σ2), false), h2)
    | some ((.ct, σ2), h2) => some (((.nx, σ2), false), h2)
    | some ((.brk, σ2), h2) => some (((.nx, σ2), true), h2)
    | some ((.ret v, σ2), h2) => some (((.ret v, σ2), true), h2)
    | none => none
  | none => none
theorem for_inv {t it : E} {b : S} {σ : Env1} {h : AH} {r : Fl × Env1} {h' : AH} (e : evS P cl (.for_ t it b) σ h = some (r, h')) : ∃ i h1 z, evI P cl it σ h = some (i, h1) ∧ walk (forB P cl t b) i (.nx, σ) h1 = some ((r, z), h') := by
  unfold evS at e
  split at e
  · split at e
    · cases e; exact ⟨_, _, _, ‹_›, ‹_›⟩
    · cases e
  · cases e
theorem forB_inv {t : E} {b : S} {x : PV} {q : Fl × Env1} {h : AH} {r : (Fl × Env1) × Bool} {h' : AH} (e : forB P cl t b x q h = some (r, h')) : ∃ σ1 f σ2, bindP t x q.2 = some σ1 ∧ evS P cl b σ1 h = some ((f, σ2), h') ∧
    match f with | .nx => r = ((.nx, σ2), false) | .ct => r = ((.nx, σ2), false) | .brk => r = ((.nx, σ2), true) | .ret v => r = ((.ret v, σ2), true) := by
  unfold forB at e
  split at e
  · split at e <;> first | (cases e; exact ⟨_, _, _, ‹_›, ‹_›, rfl⟩) | cases e
  · cases e
theorem rs_for {t it : E} {b : S} {tg iter : Expr} {body : List Stmt} {pos : Pos} (hp : PassesOwn (model X.prog X.w) X.A X.env X.xe) (hc : X.calm = true) (hi : PI X tg iter (RI G cd P cl it)) (hg : PG X tg (rdG G cd t)) (hb : PSs X body (RS G cd P cl b))
    (hwk : it.weak = true → t.isTup = true) (hs : ∀ x, foldedSetIterable iter X.env x = pure x) : PS X (.For tg iter body [] pos) (RS G cd P cl (.for_ t it b)) := by
  refine (ps_for hp hc hi hg hb hs).imp fun D σ H ⟨ρ, σp, hh, r, h', sr, wf, ev, g⟩ => ?_
  obtain ⟨i, h1, z, e1, e2⟩ := for_inv ev
  obtain ⟨m0, run⟩ := walk_runs e2
  refine ⟨ρ, σp, hh, i, h1, sr, wf, e1, fun J H1 ρ1 x1 w1 itr => ?_⟩
  refine ⟨fun j m σ H => ∃ ρ2 σ2 h2, Ext ρ1 ρ2 H1 H ∧ Wf G ρ2 h2 H ∧ SR G cd ρ2 H σ2 σ ∧ Runs (forB P cl t b) i m j (.nx, σ2) h2 (r, z) h', ⟨m0, ρ1, σp, h1, Ext.refl, w1, sr.mono x1, run⟩, ?_⟩
  rintro j m σ2' H2 ⟨ρ2, σ2, h2, x2, w2, s2, rr⟩
  generalize hq : ((Fl.nx, σ2) : Fl × Env1) = q0 at rr
  generalize hr0 : (r, z) = r0 at rr
  cases rr with
  | stop q =>
    subst hq; cases hr0
    exact .inl ⟨itr.stop ρ2 H2 _ j x2.sub w2 q, g σ2' H2 ρ2 (x1.trans x2) w2 s2⟩
  | @out _ _ b' _ _ x q ef =>
    subst hq; cases hr0
    obtain ⟨σ3, f, σ4, b1, b2, b3⟩ := forB_inv ef
    refine .inr ⟨itr.go ρ2 H2 _ j x x2.sub w2 q, fun _ _ => False, fun _ _ z => z.elim, fun v H3 y => ?_⟩
    obtain ⟨x3, w3, r3⟩ := itr.yld ρ2 H2 _ j x v H3 x2.sub w2 q y
    have r3 : RepW t.isTup G.K ρ2 H3 x v := by
      rcases r3 with r3 | ⟨hw, r3⟩
      · exact .inl r3
      · exact .inr ⟨hwk hw, r3⟩
    refine ⟨ρ2, σ2, h2, x, σ3, s2.mono x3, w3, r3, b1, fun σ3' s3 _ => ⟨ρ2, σ3, h2, (f, σ4), h', s3, w3, b2, fun σ4' H4 ρ4 x4 w4 s4 => ?_⟩⟩
    have gg := g σ4' H4 ρ4 (x1.trans (x2.trans (x3.trans x4))) w4
    cases f with
    | nx => cases b3
    | ct => cases b3
    | brk => cases b3; exact gg s4
    | ret v => cases b3; exact gg s4
  | @next m j b1 b1' _ h3 _ x r q ef rr =>
    subst hq; subst hr0
    obtain ⟨σ3, f, σ4, b1, b2, b3⟩ := forB_inv ef
    refine .inr ⟨itr.go ρ2 H2 _ j x x2.sub w2 q, fun σ' H' => ∃ ρ2 σ2, Ext ρ1 ρ2 H1 H' ∧ Wf G ρ2 h3 H' ∧ SR G cd ρ2 H' σ2 σ' ∧ Runs (forB P cl t b) i m (j + 1) (.nx, σ2) h3 (r, z) h',
      fun σ' H' ⟨ρ2, σ2, a1, a2, a3, a4⟩ => ⟨m, Nat.lt_succ_self _, ρ2, σ2, h3, a1, a2, a3, a4⟩, fun v H3 y => ?_⟩
    obtain ⟨x3, w3, r3⟩ := itr.yld ρ2 H2 _ j x v H3 x2.sub w2 q y
    have r3 : RepW t.isTup G.K ρ2 H3 x v := by
      rcases r3 with r3 | ⟨hw, r3⟩
      · exact .inl r3
      · exact .inr ⟨hwk hw, r3⟩
    refine ⟨ρ2, σ2, h2, x, σ3, s2.mono x3, w3, r3, b1, fun σ3' s3 _ => ⟨ρ2, σ3, h2, (f, σ4), h3, s3, w3, b2, fun σ4' H4 ρ4 x4 w4 s4 => ?_⟩⟩
    cases f with
    | nx => cases b3; exact ⟨ρ4, σ4, x2.trans (x3.trans x4), w4, s4, rr⟩
    | ct => cases b3; exact ⟨ρ4, σ4, x2.trans (x3.trans x4), w4, s4, rr⟩
    | brk => cases b3
    | ret v => cases b3
end
end Mi
set_option Elab.async false
set_option linter.all false
set_option maxRecDepth 100000
set_option maxHeartbeats 2000000
/-! Mi J: list comprehensions -/
namespace Mi
open PySem PySem.Spec PyProof.Rows L2

section
variable {X : Cx} {G : Gs} {cd : Option (Addr × Addr)} {P : Pg} {cl : Cl}
/-- one item of the last clause -/
def lcIn (P : Pg) (cl : Cl) (c e : E) (σ1 : Env1) (acc : List PV) (h : AH) : Res (List PV × Bool) := match evE P cl c σ1 h with
  | some (b, h2) => match truth b h2 with
    | some true => match evE P cl e σ1 h2 with
      | some (v, h3) => if acc.length < SZ then some ((acc ++ [v], false), h3) else none
      | none => none
    | some false => some ((acc, false), h2)
    | none => none
  | none => none
def lcB (P : Pg) (cl : Cl) (own : List Nat) (t c e : E) (σ : Env1) : Step (List PV) := fun x acc h => match bindP t x (wipeP σ own) with
  | some σ1 => lcIn P cl c e σ1 acc h
  | none => none
def lcB2 (P : Pg) (cl : Cl) (own : List Nat) (t t2 it2 c e : E) (σ : Env1) : Step (List PV) := fun x acc h => match bindP t x (wipeP σ own) with
  | some σ0 => match evI P cl it2 σ0 h with
    | some (i2, h1) => walk (fun x acc h => match bindP t2 x (wipeP σ0 (tgVars t2)) with
      | some σ1 => lcIn P cl c e σ1 acc h
      | none => none) i2 acc h1
    | none => none
  | none => none
theorem lc_inv {own : List Nat} {t it c e : E} {σ : Env1} {h : AH} {r : PV × AH} (ev : evE P cl (.lc own t it c e) σ h = some r) : ∃ i h1 acc z h2, evI P cl it σ h = some (i, h1) ∧ walk (lcB P cl own t c e σ) i [] h1 = some ((acc, z), h2) ∧ alloc (.lst acc) h2 = some r := by
  unfold evE at ev
  split at ev
  · split at ev
    · exact ⟨_, _, _, _, _, ‹_›, ‹_›, ev⟩
    · cases ev
  · cases ev
theorem lc2_inv {own : List Nat} {t it t2 it2 c e : E} {σ : Env1} {h : AH} {r : PV × AH} (ev : evE P cl (.lc2 own t it t2 it2 c e) σ h = some r) : ∃ i h1 acc z h2, evI P cl it σ h = some (i, h1) ∧ walk (lcB2 P cl own t t2 it2 c e σ) i [] h1 = some ((acc, z), h2) ∧ alloc (.lst acc) h2 = some r := by
  unfold evE at ev
  split at ev
  · split at ev
    · exact ⟨_, _, _, _, _, ‹_›, ‹_›, ev⟩
    · cases ev
  · cases ev
theorem lcIn_inv {c e : E} {σ1 : Env1} {acc : List PV} {h : AH} {r : List PV × Bool} {h' : AH} (q : lcIn P cl c e σ1 acc h = some (r, h')) :
    ∃ b h2, tst (evE P cl c σ1 h) = some (b, h2) ∧ if b = true then ∃ v, evE P cl e σ1 h2 = some (v, h') ∧ acc.length < SZ ∧ r = (acc ++ [v], false) else r = (acc, false) ∧ h' = h2 := by
  unfold lcIn at q
  split at q
  · rename_i b h2 e1
    have ts : ∀ d, truth b h2 = some d → tst (evE P cl c σ1 h) = some (d, h2) := fun d hd => by
      rw [e1]; show (truth b h2).map _ = _; rw [hd]; rfl
    split at q
    · rename_i z
      split at q
      · rename_i v h3 e2
        obtain ⟨hz, q⟩ := ite_some q
        cases q
        exact ⟨true, h2, ts _ z, by rw [if_pos rfl]; exact ⟨v, e2, hz, rfl⟩⟩
      · cases q
    · rename_i z
      cases q
      exact ⟨false, h', ts _ z, by rw [if_neg (by decide)]; exact ⟨rfl, rfl⟩⟩
    · cases q
  · cases q
theorem lcB_inv {own : List Nat} {t c e : E} {σ : Env1} {x : PV} {acc : List PV} {h : AH} {r : List PV × Bool} {h' : AH} (q : lcB P cl own t c e σ x acc h = some (r, h')) : ∃ σ1, bindP t x (wipeP σ own) = some σ1 ∧ lcIn P cl c e σ1 acc h = some (r, h') := by
  unfold lcB at q
  split at q
  · exact ⟨_, ‹_›, q⟩
  · cases q
/-- the tests of a clause -/
theorem rts_nil : PTs X [] (RT G cd P cl (.bl true)) :=
  ⟨fun pins s σ H Q I ⟨ρ, σp, hp, b, h', sr, wf, ev, g⟩ => pts_nil.run pins s σ H Q I (by cases ev; exact g H ρ Ext.refl wf)⟩
theorem rts_one {c : E} {ec : Expr} (h : PT X ec (RT G cd P cl c)) : PTs X [ec] (RT G cd P cl c) := pts_one h

/-- a list that grows: what stands at a turn -/
structure Acc (G : Gs) (ρ1 : List Addr) (H1 : Hp) (D : Addr) (acc : List PV) (h : AH) (ρ : List Addr) (H : Hp) : Prop where
  ext : Ext ρ1 ρ H1 H
  wf : Wf G ρ h H
  out : D ∉ ρ
  at_ : ∃ vs, H D = some (.lst vs) ∧ Reps G.K ρ H acc vs
theorem Acc.start {ρ1 : List Addr} {H1 : Hp} {D : Addr} {h : AH} (w : Wf G ρ1 h H1) (hD : H1 D = none) : Acc G ρ1 H1 D [] h ρ1 (upd H1 D (.lst [])) :=
  ⟨Ext.new hD, w.new hD, fun z => w.nn z hD, [], upd_same, .nil⟩
theorem Acc.go {ρ1 ρ ρ' : List Addr} {H1 H H' : Hp} {D : Addr} {acc : List PV} {h h' : AH} (a : Acc G ρ1 H1 D acc h ρ H) (e : Ext ρ ρ' H H') (w : Wf G ρ' h' H') : Acc G ρ1 H1 D acc h' ρ' H' := by
  obtain ⟨vs, h1, h2⟩ := a.at_
  obtain ⟨h3, h4⟩ := e.apart h1 a.out
  exact ⟨a.ext.trans e, w, h4, vs, h3, h2.mono e⟩
theorem Acc.put {ρ1 ρ : List Addr} {H1 H : Hp} {D : Addr} {acc : List PV} {h : AH} {v : PV} {u : V} {us : List V} (a : Acc G ρ1 H1 D acc h ρ H) (hD : H1 D = none) (hu : H D = some (.lst us)) (r : Rep G.K ρ H v u) : Acc G ρ1 H1 D (acc ++ [v]) h ρ (upd H D (.lst (us ++ [u]))) := by
  obtain ⟨vs, h1, h2⟩ := a.at_
  rw [hu] at h1; cases h1
  exact ⟨a.ext.fresh hD, a.wf.out hu a.out, a.out, _, upd_same, (h2.snoc r).sub (Sub.out hu)⟩
theorem Acc.done {ρ1 ρ : List Addr} {H1 H : Hp} {D : Addr} {acc : List PV} {h : AH} {Q : VK} (a : Acc G ρ1 H1 D acc h ρ H) (hD : H1 D = none) (g : Go G ρ1 H1 (h ++ [.lst acc]) (.ref h.length) Q) : Q (.ref D) H := by
  obtain ⟨vs, h1, h2⟩ := a.at_
  exact g _ H (ρ ++ [D]) (a.ext.take hD) (a.wf.adopt h1 a.out h2) (.ref (by rw [← a.wf.len, List.getElem?_append_right (Nat.le_refl _)]; simp))

theorem lc_imp {t it c e : E} {own : List (Str × Nat)} (hwk : it.weak = true → t.isTup = true) (hv : ∀ i ∈ tgVars t, i ∈ own.map (·.2)) {σ : L2.St} {H : Hp} {Q : VK} (q : RE G cd P cl (.lc (own.map (·.2)) t it c e) σ H Q) :
    tLc (RI G cd P cl it) (rdG G cd t) (RT G cd P cl c) (RE G cd P cl e) (own.map (·.2)) σ H Q := by
  obtain ⟨ρ, σp, hh, w, h', sr, wf, ev, g⟩ := q
  obtain ⟨i, h1, acc0, z0, h2, e1, e2, e3⟩ := lc_inv ev
  obtain ⟨rfl, rfl⟩ := alloc_eq e3
  obtain ⟨m0, run⟩ := walk_runs e2
  refine ⟨ρ, σp, hh, i, h1, sr, wf, e1, fun J H1 ρ1 x1 w1 itr D hD => ?_⟩
  refine ⟨fun j m H => ∃ ρ2 h3 acc, Acc G ρ1 H1 D acc h3 ρ2 H ∧ Runs (lcB P cl (own.map (·.2)) t c e σp) i m j acc h3 (acc0, z0) h2, ⟨m0, ρ1, h1, [], Acc.start w1 hD, run⟩, ?_⟩
  rintro j m H2 ⟨ρ2, h3, acc, A, rr⟩
  generalize hr0 : (acc0, z0) = r0 at rr
  cases rr with
  | stop q =>
    cases hr0
    exact .inl ⟨itr.stop ρ2 H2 _ j A.ext.sub A.wf q, A.done hD (g.mono x1)⟩
  | @out _ _ b' _ _ x q ef =>
    cases hr0
    obtain ⟨σ1, b1, b2⟩ := lcB_inv ef
    obtain ⟨b, h4, b3, b4⟩ := lcIn_inv b2
    exfalso
    split at b4
    · obtain ⟨v, _, _, z⟩ := b4; cases z
    · cases b4.1
  | @next m j b1 b1' _ h4 _ x r q ef rr =>
    subst hr0
    obtain ⟨σ1, b1, b2⟩ := lcB_inv ef
    obtain ⟨b, h5, b3, b4⟩ := lcIn_inv b2
    refine .inr ⟨itr.go ρ2 H2 _ j x A.ext.sub A.wf q, fun H' => ∃ ρ2, Acc G ρ1 H1 D b1' h4 ρ2 H' ∧ Runs (lcB P cl (own.map (·.2)) t c e σp) i m (j + 1) b1' h4 (acc0, z0) h2,
      fun H' ⟨ρ2, a1, a2⟩ => ⟨m, Nat.lt_succ_self _, ρ2, h4, b1', a1, a2⟩, fun v H3 y => ?_⟩
    obtain ⟨x3, w3, r3⟩ := itr.yld ρ2 H2 _ j x v H3 A.ext.sub A.wf q y
    have r3 : RepW t.isTup G.K ρ2 H3 x v := by
      rcases r3 with r3 | ⟨hw, r3⟩
      · exact .inl r3
      · exact .inr ⟨hwk hw, r3⟩
    have A3 := A.go x3 w3
    have srA : SR G cd ρ2 H3 σp σ := (sr.mono x1).mono (A.ext.trans x3)
    refine ⟨ρ2, _, h3, x, σ1, srA.wipe _, w3, r3, b1, fun σ1' s3 sm => ⟨?_, ρ2, σ1, h3, b, h5, s3, w3, b3, fun H4 ρ4 x4 w4 => ?_⟩⟩
    · rw [sm _ hv]
      have key : ∀ vs : List Nat, wipe (wipe σ vs) vs = wipe σ vs := fun vs => by
        have : ∀ (us vs : List Nat) (τ : L2.St), (∀ i ∈ us, i ∈ vs) → wipe (wipe τ us) vs = wipe τ vs := fun us => by
          induction us with
          | nil => exact fun vs τ _ => rfl
          | cons u us ih =>
            intro vs τ hu
            show wipe ((wipe τ us).set u none) vs = _
            rw [wipe_put (hu u (by simp))]
            exact ih vs τ fun i hi => hu i (by simp [hi])
        exact this vs vs σ fun i hi => hi
      exact key _
    · cases b with
      | false =>
        simp only [Bool.false_eq_true, if_false] at b4 ⊢
        obtain ⟨z1, rfl⟩ := b4
        cases z1
        exact ⟨ρ4, A3.go x4 w4, rr⟩
      | true =>
        simp only [if_true] at b4 ⊢
        obtain ⟨v', e5, hz, z1⟩ := b4
        cases z1
        refine ⟨ρ4, σ1, h5, v', h4, s3.mono x4, w4, e5, fun u H5 ρ5 x5 w5 r5 => ?_⟩
        have A5 := A3.go (x4.trans x5) w5
        obtain ⟨us, hu, rs⟩ := A5.at_
        exact ⟨us, hu, by rw [← rs.length, ← SZ_eq]; exact hz, ρ5, A5.put hD hu r5, rr⟩
theorem rd_lc {t it c e : E} {elt tg iter : Expr} {ifs : List Expr} {scope : Scope} {own : List (Str × Nat)} {pos : Pos} (hc : X.calm = true) (hN : X.N.Nodup) (hi : PI X tg iter (RI G cd P cl it)) (ok : BlkOk X.N X.env.scope scope own)
    (hg : ∀ (s : Shared) (H : Hp) (C : Addr) (cs : List (Str × Addr)) (fp : List Addr), PG (X.blk s H scope (compEnvC scope cs C X.env) fp) tg (rdG G cd t)) (ht : ∀ (s : Shared) (H : Hp) (C : Addr) (cs : List (Str × Addr)) (fp : List Addr), PTs (X.blk s H scope (compEnvC scope cs C X.env) fp) ifs (RT G cd P cl c))
    (he : ∀ (s : Shared) (H : Hp) (C : Addr) (cs : List (Str × Addr)) (fp : List Addr), PE (X.blk s H scope (compEnvC scope cs C X.env) fp) elt (RE G cd P cl e)) (hs : ∀ x, foldedSetIterable iter X.env x = pure x)
    (hwk : it.weak = true → t.isTup = true) (hv : ∀ i ∈ tgVars t, i ∈ own.map (·.2)) : PE X (.ListComp elt [⟨tg, iter, ifs, 0⟩] scope pos) (RE G cd P cl (.lc (own.map (·.2)) t it c e)) :=
  (pe_lc hc hN hi ok hg ht he hs).imp fun σ H Q q => lc_imp hwk hv q
theorem rs_setLc {i : Nat} {y : Str} {py : Pos} {t it c e : E} {elt tg iter : Expr} {ifs : List Expr} {scope : Scope} {own : List (Str × Nat)} {pos spos : Pos} (hc : X.calm = true) (hN : X.N.Nodup) (hy : X.N[i]? = some y) (hyl : X.env.scope.names.lookup y = some .local)
    (hsw : swapsWith (.ListComp elt [⟨tg, iter, ifs, 0⟩] scope pos) (some (.Name y py)) spos.line X.env = pure true) (hi : PI X tg iter (RI G cd P cl it)) (ok : BlkOk X.N X.env.scope scope own)
    (hg : ∀ (s : Shared) (H : Hp) (C : Addr) (cs : List (Str × Addr)) (fp : List Addr), PG (X.blk s H scope (compEnvC scope cs C X.env) fp) tg (rdG G cd t)) (ht : ∀ (s : Shared) (H : Hp) (C : Addr) (cs : List (Str × Addr)) (fp : List Addr), PTs (X.blk s H scope (compEnvC scope cs C X.env) fp) ifs (RT G cd P cl c))
    (he : ∀ (s : Shared) (H : Hp) (C : Addr) (cs : List (Str × Addr)) (fp : List Addr), PE (X.blk s H scope (compEnvC scope cs C X.env) fp) elt (RE G cd P cl e)) (hs : ∀ x, foldedSetIterable iter X.env x = pure x)
    (hwk : it.weak = true → t.isTup = true) (hv : ∀ i ∈ tgVars t, i ∈ own.map (·.2)) : PS X (.Assign [.Name y py] (.ListComp elt [⟨tg, iter, ifs, 0⟩] scope pos) spos) (tAsg (RE G cd P cl (.lc (own.map (·.2)) t it c e)) (gName i)) :=
  (ps_setLc hc hN hy hyl hsw hi ok hg ht he hs).imp fun D σ H q => lc_imp (Q := fun x H1 => gName i x σ H1 D.nx) hwk hv q
end
end Mi
set_option Elab.async false
set_option linter.all false
set_option maxRecDepth 100000
set_option maxHeartbeats 2000000
/-! Mi K: list comprehensions of two clauses -/
namespace Mi
open PySem PySem.Spec PyProof.Rows L2

theorem Runs.flag {β : Type} {f : Step β} {it : It1} (hf : ∀ x b h b' h', f x b h ≠ some ((b', true), h')) : ∀ {m j : Nat} {b : β} {h : AH} {r : β × Bool} {h' : AH}, Runs f it m j b h r h' → r.2 = false
  | _, _, _, _, _, _, .stop _ => rfl
  | _, _, _, _, _, _, .out _ e => absurd e (hf _ _ _ _ _)
  | _, _, _, _, _, _, .next _ _ r => r.flag hf
theorem wipe_idem (us : List Nat) : ∀ (vs : List Nat) (τ : L2.St), (∀ i ∈ us, i ∈ vs) → wipe (wipe τ us) vs = wipe τ vs := by
  induction us with
  | nil => exact fun vs τ _ => rfl
  | cons u us ih =>
    intro vs τ hu
    show wipe ((wipe τ us).set u none) vs = _
    rw [wipe_put (hu u (by simp))]
    exact ih vs τ fun i hi => hu i (by simp [hi])
section
variable {X : Cx} {G : Gs} {cd : Option (Addr × Addr)} {P : Pg} {cl : Cl}
theorem lcIn_flag {c e : E} {σ1 : Env1} {acc acc' : List PV} {h h' : AH} : lcIn P cl c e σ1 acc h ≠ some ((acc', true), h') := fun q => by
  obtain ⟨b, h4, b3, b4⟩ := lcIn_inv q
  split at b4
  · obtain ⟨v, _, _, z⟩ := b4; cases z
  · cases b4.1
def lcJ (P : Pg) (cl : Cl) (t2 c e : E) (σ0 : Env1) : Step (List PV) := fun x acc h => match bindP t2 x (wipeP σ0 (tgVars t2)) with
  | some σ1 => lcIn P cl c e σ1 acc h
  | none => none
theorem lcJ_inv {t c e : E} {σ : Env1} {x : PV} {acc : List PV} {h : AH} {r : List PV × Bool} {h' : AH} (q : lcJ P cl t c e σ x acc h = some (r, h')) : ∃ σ1, bindP t x (wipeP σ (tgVars t)) = some σ1 ∧ lcIn P cl c e σ1 acc h = some (r, h') := by
  unfold lcJ at q
  split at q
  · exact ⟨_, ‹_›, q⟩
  · cases q
theorem lcJ_flag {t c e : E} {σ1 : Env1} {x : PV} {acc acc' : List PV} {h h' : AH} : lcJ P cl t c e σ1 x acc h ≠ some ((acc', true), h') := fun q => by
  obtain ⟨σ2, _, q⟩ := lcJ_inv q
  exact lcIn_flag q
theorem lcB2_inv {own : List Nat} {t t2 it2 c e : E} {σ : Env1} {x : PV} {acc : List PV} {h : AH} {r : List PV × Bool} {h' : AH} (q : lcB2 P cl own t t2 it2 c e σ x acc h = some (r, h')) :
    ∃ σ0 i2 h1 acc', bindP t x (wipeP σ own) = some σ0 ∧ evI P cl it2 σ0 h = some (i2, h1) ∧ r = (acc', false) ∧ ∃ m, Runs (lcJ P cl t2 c e σ0) i2 m 0 acc h1 (acc', false) h' := by
  unfold lcB2 at q
  split at q
  · rename_i σ0 e0
    split at q
    · rename_i i2 h1 e1
      obtain ⟨m, rr⟩ := walk_runs q
      obtain ⟨acc', z⟩ := r
      have hz := Runs.flag (f := lcJ P cl t2 c e σ0) (fun x b h b' h' => lcJ_flag) rr
      have hz : z = false := hz
      subst hz
      exact ⟨σ0, i2, h1, acc', e0, e1, rfl, m, rr⟩
    · cases q
  · cases q
theorem wk_rep {wk : Bool} {t : E} {K : PySem.W.Frag} {ρ : List Addr} {H : Hp} {x : PV} {v : V} (hwk : wk = true → t.isTup = true) (r : RepW wk K ρ H x v) : RepW t.isTup K ρ H x v := by
  rcases r with r3 | ⟨hw, r3⟩
  · exact .inl r3
  · exact .inr ⟨hwk hw, r3⟩
theorem lc2_imp {t it t2 it2 c e : E} {own : List (Str × Nat)} (hwk : it.weak = true → t.isTup = true) (hwk2 : it2.weak = true → t2.isTup = true) (hv : ∀ i ∈ tgVars t, i ∈ own.map (·.2)) {σ : L2.St} {H : Hp} {Q : VK} (q : RE G cd P cl (.lc2 (own.map (·.2)) t it t2 it2 c e) σ H Q) :
    tLc2 (RI G cd P cl it) (rdG G cd t) tYes (RI G cd P cl it2) (rdG G cd t2) (RT G cd P cl c) (RE G cd P cl e) (own.map (·.2)) (tgVars t2) σ H Q := by
  obtain ⟨ρ, σp, hh, w, h', sr, wf, ev, g⟩ := q
  obtain ⟨i, h1, acc0, z0, h2, e1, e2, e3⟩ := lc2_inv ev
  obtain ⟨rfl, rfl⟩ := alloc_eq e3
  obtain ⟨m0, run⟩ := walk_runs e2
  refine ⟨ρ, σp, hh, i, h1, sr, wf, e1, fun J H1 ρ1 x1 w1 itr D hD => ?_⟩
  refine ⟨fun j m H => ∃ ρ2 h3 acc, Acc G ρ1 H1 D acc h3 ρ2 H ∧ Runs (lcB2 P cl (own.map (·.2)) t t2 it2 c e σp) i m j acc h3 (acc0, z0) h2, ⟨m0, ρ1, h1, [], Acc.start w1 hD, run⟩, ?_⟩
  rintro j m H2 ⟨ρ2, h3, acc, A, rr⟩
  generalize hr0 : (acc0, z0) = r0 at rr
  cases rr with
  | stop q =>
    cases hr0
    exact .inl ⟨itr.stop ρ2 H2 _ j A.ext.sub A.wf q, A.done hD (g.mono x1)⟩
  | @out _ _ b' _ _ x q ef =>
    cases hr0
    obtain ⟨σ0, i2, h4, acc', b1, b2, b3, _⟩ := lcB2_inv ef
    cases b3
  | @next m j b1 b1' _ h4 _ x r q ef rr =>
    subst hr0
    obtain ⟨σ0, i2, h5, acc', b1, b2, b3, m2, rr2⟩ := lcB2_inv ef
    cases b3
    refine .inr ⟨itr.go ρ2 H2 _ j x A.ext.sub A.wf q, fun H' => ∃ ρ2, Acc G ρ1 H1 D b1' h4 ρ2 H' ∧ Runs (lcB2 P cl (own.map (·.2)) t t2 it2 c e σp) i m (j + 1) b1' h4 (acc0, z0) h2,
      fun H' ⟨ρ2, a1, a2⟩ => ⟨m, Nat.lt_succ_self _, ρ2, h4, b1', a1, a2⟩, fun v H3 y => ?_⟩
    obtain ⟨x3, w3, r3⟩ := itr.yld ρ2 H2 _ j x v H3 A.ext.sub A.wf q y
    have r3 := wk_rep hwk r3
    have A3 := A.go x3 w3
    have srA : SR G cd ρ2 H3 σp σ := (sr.mono x1).mono (A.ext.trans x3)
    refine ⟨ρ2, _, h3, x, σ0, srA.wipe _, w3, r3, b1, fun σ0' s3 sm => ⟨?_, ?_⟩⟩
    · rw [sm _ hv]
      exact wipe_idem _ _ σ fun i hi => hi
    · dsimp only [tYes]
      rw [if_pos rfl]
      refine ⟨ρ2, σ0, h3, i2, h5, s3, w3, b2, fun J1 H4 ρ4 x4 w4 itr2 => ?_⟩
      refine ⟨fun j m H => ∃ ρ5 h6 acc, Acc G ρ1 H1 D acc h6 ρ5 H ∧ Sub ρ4 ρ5 H4 H ∧ Runs (lcJ P cl t2 c e σ0) i2 m j acc h6 (b1', false) h4, ⟨m2, ρ4, h5, acc, A3.go x4 w4, Sub.refl, rr2⟩, ?_⟩
      rintro j2 m2 H5 ⟨ρ5, h6, acc5, A5, x5, rr5⟩
      generalize hr5 : (b1', false) = r5 at rr5
      cases rr5 with
      | stop q =>
        cases hr5
        exact .inl ⟨itr2.stop ρ5 H5 _ j2 x5 A5.wf q, ρ5, A5, rr⟩
      | @out _ _ b' _ _ x q ef => cases hr5
      | @next m2 j2 b2 b2' _ h7 _ x' r q ef rr6 =>
        subst hr5
        obtain ⟨σ1, b1, b2⟩ := lcJ_inv ef
        obtain ⟨b, h8, b3, b4⟩ := lcIn_inv b2
        refine .inr ⟨itr2.go ρ5 H5 _ j2 x' x5 A5.wf q, fun H' => ∃ ρ5, Acc G ρ1 H1 D b2' h7 ρ5 H' ∧ Sub ρ4 ρ5 H4 H' ∧ Runs (lcJ P cl t2 c e σ0) i2 m2 (j2 + 1) b2' h7 (b1', false) h4,
          fun H' ⟨ρ5, a1, a2, a3⟩ => ⟨m2, Nat.lt_succ_self _, ρ5, h7, b2', a1, a2, a3⟩, fun v H6 y => ?_⟩
        obtain ⟨x6, w6, r6⟩ := itr2.yld ρ5 H5 _ j2 x' v H6 x5 A5.wf q y
        have r6 := wk_rep hwk2 r6
        have A6 := A5.go x6 w6
        have srB : SR G cd ρ5 H6 σ0 σ0' := ((s3.mono x4).sub x5).mono x6
        refine ⟨ρ5, _, h6, x', σ1, srB.wipe _, w6, r6, b1, fun σ1' s7 sm => ⟨?_, ρ5, σ1, h6, b, h8, s7, w6, b3, fun H7 ρ7 x7 w7 => ?_⟩⟩
        · rw [sm _ fun i hi => hi]
          exact wipe_idem _ _ σ0' fun i hi => hi
        · cases b with
          | false =>
            simp only [Bool.false_eq_true, if_false] at b4 ⊢
            obtain ⟨z1, rfl⟩ := b4
            cases z1
            exact ⟨ρ7, A6.go x7 w7, x5.trans (x6.trans x7).sub, rr6⟩
          | true =>
            simp only [if_true] at b4 ⊢
            obtain ⟨v', e5, hz, z1⟩ := b4
            cases z1
            refine ⟨ρ7, σ1, h8, v', h7, s7.mono x7, w7, e5, fun u H8 ρ8 x8 w8 r8 => ?_⟩
            have A8 := A6.go (x7.trans x8) w8
            obtain ⟨us, hu, rs⟩ := A8.at_
            exact ⟨us, hu, by rw [← rs.length, ← SZ_eq]; exact hz, ρ8, A8.put hD hu r8, (x5.trans (x6.trans (x7.trans x8)).sub).trans (Sub.out hu), rr6⟩
theorem rd_lc2 {t it t2 it2 c e : E} {elt tg iter tg1 iter1 : Expr} {ifs1 : List Expr} {scope : Scope} {own : List (Str × Nat)} {pos : Pos} (hc : X.calm = true) (hN : X.N.Nodup) (hi : PI X tg iter (RI G cd P cl it)) (ok : BlkOk X.N X.env.scope scope own)
    (hg : ∀ (s : Shared) (H : Hp) (C : Addr) (cs : List (Str × Addr)) (fp : List Addr), PG (X.blk s H scope (compEnvC scope cs C X.env) fp) tg (rdG G cd t))
    (he : ∀ (s : Shared) (H : Hp) (C : Addr) (cs : List (Str × Addr)) (fp : List Addr), PE (X.blk s H scope (compEnvC scope cs C X.env) fp) elt (RE G cd P cl e)) (hs : ∀ x, foldedSetIterable iter X.env x = pure x)
    (hi1 : ∀ (s : Shared) (H : Hp) (C : Addr) (cs : List (Str × Addr)) (fp : List Addr), PI (X.blk s H scope (compEnvC scope cs C X.env) fp) tg1 iter1 (RI G cd P cl it2))
    (hg1 : ∀ (s : Shared) (H : Hp) (C : Addr) (cs : List (Str × Addr)) (fp : List Addr), PG (X.blk s H scope (compEnvC scope cs C X.env) fp) tg1 (rdG G cd t2))
    (ht1 : ∀ (s : Shared) (H : Hp) (C : Addr) (cs : List (Str × Addr)) (fp : List Addr), PTs (X.blk s H scope (compEnvC scope cs C X.env) fp) ifs1 (RT G cd P cl c))
    (hs1 : ∀ env x, foldedSetIterable iter1 env x = pure x)
    (hwk : it.weak = true → t.isTup = true) (hwk2 : it2.weak = true → t2.isTup = true) (hv : ∀ i ∈ tgVars t, i ∈ own.map (·.2)) (hv2 : ∀ i ∈ tgVars t2, i ∈ own.map (·.2)) :
    PE X (.ListComp elt [⟨tg, iter, [], 0⟩, ⟨tg1, iter1, ifs1, 0⟩] scope pos) (RE G cd P cl (.lc2 (own.map (·.2)) t it t2 it2 c e)) :=
  (pe_lc2 (vs1 := tgVars t2) (tt := tYes) hc hN hi ok hv2 hg (fun _ _ _ _ _ => pts_nil) hi1 hg1 ht1 he hs hs1).imp fun σ H Q q => lc2_imp hwk hwk2 hv q
theorem rs_setLc2 {i : Nat} {y : Str} {py spos : Pos} {t it t2 it2 c e : E} {elt tg iter tg1 iter1 : Expr} {ifs1 : List Expr} {scope : Scope} {own : List (Str × Nat)} {pos : Pos} (hc : X.calm = true) (hN : X.N.Nodup) (hy : X.N[i]? = some y) (hyl : X.env.scope.names.lookup y = some .local)
    (hsw : swapsWith (.ListComp elt [⟨tg, iter, [], 0⟩, ⟨tg1, iter1, ifs1, 0⟩] scope pos) (some (.Name y py)) spos.line X.env = pure true) (hi : PI X tg iter (RI G cd P cl it)) (ok : BlkOk X.N X.env.scope scope own)
    (hg : ∀ (s : Shared) (H : Hp) (C : Addr) (cs : List (Str × Addr)) (fp : List Addr), PG (X.blk s H scope (compEnvC scope cs C X.env) fp) tg (rdG G cd t))
    (he : ∀ (s : Shared) (H : Hp) (C : Addr) (cs : List (Str × Addr)) (fp : List Addr), PE (X.blk s H scope (compEnvC scope cs C X.env) fp) elt (RE G cd P cl e)) (hs : ∀ x, foldedSetIterable iter X.env x = pure x)
    (hi1 : ∀ (s : Shared) (H : Hp) (C : Addr) (cs : List (Str × Addr)) (fp : List Addr), PI (X.blk s H scope (compEnvC scope cs C X.env) fp) tg1 iter1 (RI G cd P cl it2))
    (hg1 : ∀ (s : Shared) (H : Hp) (C : Addr) (cs : List (Str × Addr)) (fp : List Addr), PG (X.blk s H scope (compEnvC scope cs C X.env) fp) tg1 (rdG G cd t2))
    (ht1 : ∀ (s : Shared) (H : Hp) (C : Addr) (cs : List (Str × Addr)) (fp : List Addr), PTs (X.blk s H scope (compEnvC scope cs C X.env) fp) ifs1 (RT G cd P cl c))
    (hs1 : ∀ env x, foldedSetIterable iter1 env x = pure x)
    (hwk : it.weak = true → t.isTup = true) (hwk2 : it2.weak = true → t2.isTup = true) (hv : ∀ i ∈ tgVars t, i ∈ own.map (·.2)) (hv2 : ∀ i ∈ tgVars t2, i ∈ own.map (·.2)) :
    PS X (.Assign [.Name y py] (.ListComp elt [⟨tg, iter, [], 0⟩, ⟨tg1, iter1, ifs1, 0⟩] scope pos) spos) (tAsg (RE G cd P cl (.lc2 (own.map (·.2)) t it t2 it2 c e)) (gName i)) :=
  (ps_setLc2 (vs1 := tgVars t2) (tt := tYes) hc hN hy hyl hsw hi ok hv2 hg (fun _ _ _ _ _ => pts_nil) hi1 hg1 ht1 he hs hs1).imp fun D σ H q => lc2_imp (Q := fun x H1 => gName i x σ H1 D.nx) hwk hwk2 hv q
end
end Mi
set_option Elab.async false
set_option linter.all false
set_option maxRecDepth 100000
set_option maxHeartbeats 2000000
/-! Mi N: a generator expression's own context; what a consumer does meanwhile -/
namespace Mi
open PySem PySem.Spec PyProof.Rows L2 GenW

/-- what is done between two states, whoever looks -/
def Mv (H H' : Hp) (s s' : Shared) : Prop := ∀ (X : Cx) (pins : List (Addr × Obj)) (σ : L2.St), Inv X pins σ H s → Inv X pins σ H' s'
theorem Mv.refl {H : Hp} {s : Shared} : Mv H H s s := fun _ _ _ I => I
theorem Mv.trans {H H1 H2 : Hp} {s s1 s2 : Shared} (a : Mv H H1 s s1) (b : Mv H1 H2 s1 s2) : Mv H H2 s s2 := fun X pins σ I => b X pins σ (a X pins σ I)
theorem mv_gens {H : Hp} {s : Shared} {g : Array GenState} (hg : AllBare g) : Mv H H s { s with gens := g } := fun X pins σ I =>
  I.step (h' := s.heap) (g' := g) (t' := s.toks) (d' := s.drawn) (ch := []) (fun b hb => absurd hb (by simp)) (fun b o _ _ _ e _ => e) (fun b o _ _ _ e _ => ⟨o.slots, e⟩) (fun _ _ _ _ n => n) (fun b o _ e => ⟨o, e⟩) (fun _ _ e => e) (fun _ _ _ e => e) (fun b ps e => ⟨#[], by rw [e]; simp⟩) (fun m hm => hm) I.hok hg
theorem mv_kept {H : Hp} {s : Shared} {h' : Heap} {t : Nat} (k : ∀ b u, s.heap.get? b = some u → h'.get? b = some u) : Mv H H s { s with heap := h', toks := t } := fun X pins σ I => I.kept k
theorem mv_push {H : Hp} {s : Shared} {S : Addr} {xs : List V} {its : Array Value} {n : Nat} {y : V} {v : Value} (hD : H S = some (.lst xs)) (hz : xs.length < sizeLine) (r : RelV y v) (rv : Vals xs its.toList) (hS : s.heap.get? S = some { cls := .type "list", data := .seq its n }) :
    Mv H (upd H S (.lst (xs ++ [y]))) s { s with heap := s.heap.update S (Obj.mapSeq (·.push v)) } := fun X pins σ I => by
  refine I.write (t' := s.toks) (by rw [hD]; trivial) (.inl rfl) (fun b u hb q => (Heap.get?_update_other _ _ (Ne.symm hb)).trans q) ⟨_, Heap.get?_update_self _ hS rfl⟩ ⟨by rw [List.length_append]; exact hz, its.toList ++ [v], n + 1, rv.append (.cons r .nil), ?_⟩
  rw [Heap.get?_update_self _ hS rfl]
  simp [Obj.mapSeq]
  exact Array.ext' (by simp)

/-- the context of a generator expression that was made at s -/
abbrev gCx (X : Cx) (s : Shared) (H : Hp) (scope : Scope) (cenv : Env) (fp : List Addr) (A : Around) : Cx := { X with s_0 := s, H_0 := H, env := cenv, outer := X.stack, stack := cenv :: X.stack, ex := fp, fn := fun x => scope.names.lookup x == some .cell, pn := [], A := A, xe := fun _ _ => False }
section
variable {X : Cx} {pins : List (Addr × Obj)} {σ : L2.St} {H : Hp} {s : Shared}
theorem gen_inv {scope : Scope} {own : List (Str × Nat)} {fp : List Addr} {cenv : Env} {A : Around} {m0 : Str → Option Value} {h' : Heap} {g' : Array GenState} {t' : Nat} (I : Inv X pins σ H s) (ok : BlkOk X.N X.env.scope scope own) (nc : ∀ y ∈ scope.names, y.2 ≠ .cell) (hN : X.N.Nodup) (hfp : ∀ b ∈ fp, FpOk X pins H b ∧ b < s.heap.objs.size)
    (hL : cenv.locals = s.heap.objs.size) (hcl : cenv.cells = cloFrom X.env.cells scope.names []) (hsc : cenv.scope = scope) (hgl : cenv.globals = mainGlobals) (hbt : cenv.builtins = builtinsNs) (hfr : cenv.frame = some cenv.locals) (hA : A.frames = some (cenv :: X.stack)) (hh : X.calm = true → A.handled = none)
    (hn : h'.Ns s.heap.objs.size m0) (kp : ∀ b o, s.heap.get? b = some o → h'.get? b = some o) (hg : AllBare g') :
    Inv (gCx X s H scope cenv fp A) [] (wipe σ (own.map (·.2))) H { s with heap := h', gens := g', toks := t' } := by
  have hfree : ∀ y ∈ scope.names, y.2 = .free → ∃ c, X.env.cells.lookup y.1 = some c := fun y hy e => by
    rcases ok.free y hy e with k | k
    · exact I.ok.has _ (.inl k)
    · exact I.ok.has _ (.inr k)
  have cm : ∀ {y c}, (y, c) ∈ cloFrom X.env.cells scope.names [] → X.env.cells.lookup y = some c ∧ c < s.heap.objs.size := fun {y c} hm => by
    rcases cloFrom_mem hm with hm | ⟨h1, rfl⟩
    · cases hm
    · obtain ⟨c, hc⟩ := hfree _ h1 rfl
      rw [hc]
      obtain ⟨w, z⟩ := I.cell _ _ hc
      exact ⟨rfl, z.lt⟩
  have mem : ∀ {y c}, cenv.cells.lookup y = some c → X.env.cells.lookup y = some c ∧ c < s.heap.objs.size := fun {y c} e => by
    rw [hcl] at e
    exact cm (PySem.mem_of_lookup e)
  have look : ∀ {y}, scope.names.lookup y = some .free → ∃ c, cenv.cells.lookup y = some c ∧ X.env.cells.lookup y = some c := fun {y} hl => by
    have hy : (y, NameKind.free) ∈ scope.names := PySem.mem_of_lookup hl
    obtain ⟨c', e'⟩ := mem_lookup (cloFrom_has (cells := X.env.cells) (acc := []) hy)
    rw [← hcl] at e'
    exact ⟨c', e', (mem e').1⟩
  have okB : (gCx X s H scope cenv fp A).Ok := by
    refine ⟨I.ok.mod, by show cenv.scope.kind = _; rw [hsc]; exact ok.kind, hgl, hbt, by show s.heap.objs.size ≤ cenv.locals; rw [hL]; exact Nat.le_refl _,
      fun y z c e1 e2 => ?_, fun y hy => ?_, fun y c z e => ?_, hh, hA, .inr ⟨rfl, hfr⟩, fun b hb => ⟨?_, fun y c e z => ?_⟩, I.bs, Nat.le_trans I.ok.bsz I.sz, fun b o e hb => ?_, fun b hb z => ?_, I.stack, I.stkFree⟩
    · exact I.ok.inj y z c (mem e1).1 (mem e2).1
    · show ∃ c, cenv.cells.lookup y = some c
      have key : ∀ k, cenv.kindOf y = some k → (k = .cell ∨ k = .free) → ∃ c, cenv.cells.lookup y = some c := fun k hk hk' => by
        unfold Env.kindOf at hk
        rw [hsc] at hk
        rcases hk' with rfl | rfl
        · exact absurd rfl (nc _ (PySem.mem_of_lookup hk))
        · obtain ⟨c, h1, _⟩ := look hk
          exact ⟨c, h1⟩
      rcases hy with hy | hy
      · exact key _ hy (.inl rfl)
      · exact key _ hy (.inr rfl)
    · have z : (scope.names.lookup y == some NameKind.cell) = true := z
      have z : scope.names.lookup y = some .cell := by simpa using z
      exact absurd rfl (nc _ (PySem.mem_of_lookup z))
    · show b ≠ cenv.locals
      rw [hL]; exact Nat.ne_of_lt (hfp b hb).2
    · exact (hfp b hb).1.2.2.2.2.1 y c (mem e).1 z
    · rcases (hfp b hb).1.2.2.2.1 with z | z
      · exact I.ok.noex b o e z
      · exact absurd (Nat.lt_of_lt_of_le (Heap.lt_size e) (Nat.le_trans I.ok.bsz z)) (Nat.lt_irrefl _)
    · rcases List.mem_cons.mp (I.stkSub b z) with z | z
      · exact (hfp b hb).1.2.1 z
      · exact (hfp b hb).1.2.2.1 z
  refine ⟨okB, rfl, hg, Un.kept kp, ⟨m0, ?_, fun i y av e1 e2 e3 => ?_⟩, fun y c e => ?_, ?_, fun y c e => ?_, fun p hp => ?_, I.hok.kept kp, by rw [wipe_length]; exact I.len⟩
  · show Heap.Ns _ cenv.locals _
    rw [hL]; exact hn
  · obtain ⟨e2, hne⟩ := wipe_some e2
    have hfr' : scope.names.lookup y = some .free := by
      have key : ∀ k, cenv.scope.names.lookup y = some k → k = .local ∨ k = .cell ∨ k = .free → scope.names.lookup y = some .free := fun k hk hk' => by
        rw [hsc] at hk
        have no : ¬ (k = .local ∨ k = .cell) := fun hh => by
          rcases ok.own _ (PySem.mem_of_lookup hk) hh with e' | e'
          · obtain ⟨p, hp, hpy⟩ := List.mem_map.mp e'
            have e3 := ok.ix p hp
            have : p.1 = y := hpy
            rw [this] at e3
            exact hne (List.mem_map.mpr ⟨p, hp, nodup_ix hN e3 e1⟩)
          · exact e' (List.mem_of_getElem? e1)
        rcases hk' with rfl | rfl | rfl
        · exact absurd (.inl rfl) no
        · exact absurd (.inr rfl) no
        · exact hk
      have e3 : Vis cenv.scope y := e3
      rcases e3 with e3 | e3 | e3
      · exact key _ e3 (.inl rfl)
      · exact key _ e3 (.inr (.inl rfl))
      · exact key _ e3 (.inr (.inr rfl))
    obtain ⟨m, hn, hl⟩ := I.loc
    have hvis : Vis X.env.scope y := (ok.free _ (PySem.mem_of_lookup hfr') rfl).elim (fun k => .inr (.inl k)) (fun k => .inr (.inr k))
    obtain ⟨w, r, q⟩ := hl i y av e1 e2 hvis
    obtain ⟨c, h1, h2⟩ := look hfr'
    refine ⟨w, r, .inr ⟨.inr (by show cenv.scope.names.lookup y = _; rw [hsc]; exact hfr'), c, h1, ?_⟩⟩
    rcases q with ⟨k, _⟩ | ⟨_, c', e', z⟩
    · have k : X.env.scope.names.lookup y = some .local := k
      rcases ok.free _ (PySem.mem_of_lookup hfr') rfl with k' | k' <;> rw [show X.env.scope.names.lookup y = _ from k'] at k <;> cases k
    · rw [h2] at e'; cases e'
      exact z.keeps kp
  · obtain ⟨h1, _⟩ := mem e
    obtain ⟨w, z⟩ := I.cell y c h1
    exact ⟨w, z.keeps kp⟩
  · show H cenv.locals = none
    rw [hL]; exact I.hok.fresh (Nat.le_refl _)
  · exact I.freeC y c (mem e).1
  · exact absurd (show p ∈ ([] : List (Addr × Obj)) ++ [] from hp) (by simp)
end
end Mi
set_option Elab.async false
set_option linter.all false
set_option maxRecDepth 100000
set_option maxHeartbeats 2000000
/-! Mi O: a generator expression's turns -/
namespace Mi
open PySem PySem.Spec PyProof.Rows L2 GenW

section
variable {G : Gs} {P : Pg} {cl : Cl}
/-- one item of the last clause, handed out -/
def genIn (P : Pg) (cl : Cl) (k : Gc) (c e : E) (σ1 : Env1) (acc : List PV) (h : AH) : Res (List PV × Bool) := match evE P cl c σ1 h with
  | some (b, h2) => match truth b h2 with
    | some true => match evE P cl e σ1 h2 with
      | some (v, h3) => (eat k acc v h3).map fun r => (r, h3)
      | none => none
    | some false => some ((acc, false), h2)
    | none => none
  | none => none
def genF (P : Pg) (cl : Cl) (k : Gc) (t c e : E) (σb : Env1) : Step (List PV) := fun x acc h => match bindP t x σb with
  | some σ1 => genIn P cl k c e σ1 acc h
  | none => none
theorem genIn_inv {k : Gc} {c e : E} {σ1 : Env1} {acc : List PV} {h : AH} {r : List PV × Bool} {h' : AH} (q : genIn P cl k c e σ1 acc h = some (r, h')) :
    ∃ b h2, tst (evE P cl c σ1 h) = some (b, h2) ∧ if b = true then ∃ v, evE P cl e σ1 h2 = some (v, h') ∧ eat k acc v h' = some r else r = (acc, false) ∧ h' = h2 := by
  unfold genIn at q
  split at q
  · rename_i b h2 e1
    have ts : ∀ d, truth b h2 = some d → tst (evE P cl c σ1 h) = some (d, h2) := fun d hd => by
      rw [e1]; show (truth b h2).map _ = _; rw [hd]; rfl
    split at q
    · rename_i z
      split at q
      · rename_i v h3 e2
        cases y : eat k acc v h3 with
        | none => rw [y] at q; cases q
        | some r' => rw [y] at q; cases q; exact ⟨true, h2, ts _ z, by rw [if_pos rfl]; exact ⟨v, e2, y⟩⟩
      · cases q
    · rename_i z
      cases q
      exact ⟨false, h', ts _ z, by rw [if_neg (by decide)]; exact ⟨rfl, rfl⟩⟩
    · cases q
  · cases q
theorem genF_inv {k : Gc} {t c e : E} {σb : Env1} {x : PV} {acc : List PV} {h : AH} {r : List PV × Bool} {h' : AH} (q : genF P cl k t c e σb x acc h = some (r, h')) : ∃ σ1, bindP t x σb = some σ1 ∧ genIn P cl k c e σ1 acc h = some (r, h') := by
  unfold genF at q
  split at q
  · exact ⟨_, ‹_›, q⟩
  · cases q
/-- what a consumer holds -/
structure Cons (G : Gs) (ρ1 : List Addr) (H1 : Hp) (C : List PV → AH → List Addr → Hp → Prop) : Prop where
  go : ∀ {acc h h' ρ ρ' H H'}, C acc h ρ H → Ext ρ ρ' H H' → Wf G ρ' h' H' → C acc h' ρ' H'
  wf : ∀ {acc h ρ H}, C acc h ρ H → Wf G ρ h H
  sub : ∀ {acc h ρ H}, C acc h ρ H → Sub ρ1 ρ H1 H
end

section
variable {X : Cx} {G : Gs} {cd : Option (Addr × Addr)} {P : Pg} {cl : Cl}
/-- an item handed out; it goes on, unless the consumer has had enough -/
def gY (X : Cx) (pins : List (Addr × Obj)) (σ : L2.St) (G : Gs) (k : Gc) (C : List PV → AH → List Addr → Hp → Prop) (accF : List PV) (hF : AH) (a : Addr) (go : Obj) : Protocol := fun n s₀ v s kap =>
  ∃ x u acc h ρ H acc' st, Inv X pins σ H s ∧ s.heap.get? a = some go ∧ C acc h ρ H ∧ Rep G.K ρ H x u ∧ RelV u v ∧ eat k acc x h = some (acc', st) ∧ (st = true → acc' = accF ∧ h = hF) ∧
    (st = false → ∀ s'' ρ'' H'', Mv H H'' s s'' → Sub ρ ρ'' H H'' → C acc' h ρ'' H'' → kap (.send .none) s'')
/-- all handed out -/
def gR (X : Cx) (pins : List (Addr × Obj)) (σ : L2.St) (C : List PV → AH → List Addr → Hp → Prop) (accF : List PV) (z : Bool) (hF : AH) : GenEnd := fun n s₀ r s =>
  r = .ok .next ∧ (z = false ∧ ∃ ρ H, Inv X pins σ H s ∧ C accF hF ρ H)

/-- the loop of the last clause, by what is left of the evaluator's walk -/
theorem seg_last {Xg : Cx} {k : Gc} {C : List PV → AH → List Addr → Hp → Prop} {accF accE : List PV} {hF hE : AH} {z : Bool} {q0 : Nat} {a : Addr} {go : Obj} {ip : List (Addr × Obj)} {pins : List (Addr × Obj)} {σ : L2.St} {ρ0 ρi : List Addr} {H0 Hi : Hp} {A : Around} {R : GenEnd} {fs : List Frame} {e : Expr} {d : Nat} {it : Addr} {fp : List Addr} {tn : Nat → Heap → Prop} {J : It}
    {tg elt : Expr} {ifs : List Expr} {pos0 pos1 : Pos} {t c el : E} {σb : Env1} {τ : L2.St} {i : It1} {wk : Bool} {vs : List Nat} {K : PySem.Fin → Sem PySem.Fin} {Jx : Value → Sem PySem.Fin}
    (cons : Cons G ρ0 H0 C) (hcalm : Xg.calm = true) (hback : ∀ {σ' H' s'}, Inv Xg ((a, go) :: ip) σ' H' s' → Inv X pins σ H' s')
    (hov : A.over (.compLoop e d (.ref it) .none Xg.env) fs = Xg.A) (hsp : splitAtGen fs = none) (hgd : fs.any Frame.guarded = false) (hxe : Xg.xe = fun _ _ => False)
    (hden : (model Xg.prog Xg.w).den (.compLoop e d (.ref it) .none Xg.env) = (compTurn e d (.ref it) .none Xg.env).wrap K Jx id id) (hK : ∀ f, K f = .pure f)
    (hturn : compTurn e d (.ref it) .none Xg.env = (do
        standAt pos0
        match ← pyNext (.ref it) with
        | none => pure (.done .next)
        | some v =>
          letOwnedTupleGo tg (.ref it) v
          assign tg Xg.env v
          let mut ok := true
          for c in ifs do
            if ok then ok ← isTrue c Xg.env (eval c Xg.env)
          if ok then
            (do let v ← eval elt Xg.env; standAt pos1; let _ ← yieldOut Xg.env v)
          again (.compLoop e d (.ref it) .none Xg.env)))
    (hq : (Code.compLoop e d (.ref it) .none Xg.env).quiet = true) (hco : Xg.env.scope.isCoroutine = false)
    (T : Turn Xg.prog Xg.w Xg.K tg J fp it tn) (hg : PG Xg tg (rdG G cd t)) (ht : PTs Xg ifs (RT G cd P cl c)) (he : PE Xg elt (RE G cd P cl el))
    (hfp : ∀ {σ' H' s'}, Inv Xg ((a, go) :: ip) σ' H' s' → (∀ b ∈ fp, H' b = none) → ∀ b ∈ fp, FpOk Xg ((a, go) :: ip) H' b)
    (hwk : wk = true → t.isTup = true) (hv : ∀ i ∈ tgVars t, i ∈ vs) (hτ : wipe τ vs = τ) (itr : ItR wk G ρi Hi i J) (sr0 : SR G cd ρi Hi σb τ)
    (hEF : z = true → accE = accF ∧ hE = hF)
    (hend : ∀ (n : Nat), q0 ≤ n → ∀ (s₀ s : Shared) (ρ : List Addr) (H : Hp), Inv Xg ((a, go) :: ip) τ H s → Sub ρi ρ Hi H → C accE hE ρ H → z = false → (∀ b ∈ fp, H b = none) → Seg (model Xg.prog Xg.w) A R (gY X pins σ G k C accF hF a go) n s₀ (.compLoop e d (.ref it) .none Xg.env) (.pure (.done .next)) fs s) :
    ∀ (m : Nat) {j : Nat} {acc : List PV} {h : AH}, Runs (genF P cl k t c el σb) i m j acc h (accE, z) hE → ∀ (n : Nat), m + q0 ≤ n → ∀ (s₀ s : Shared) (ρ : List Addr) (H : Hp),
      Inv Xg ((a, go) :: ip) τ H s → tn j s.heap → (∀ b ∈ fp, H b = none) → C acc h ρ H → Sub ρi ρ Hi H →
      Seg (model Xg.prog Xg.w) A R (gY X pins σ G k C accF hF a go) n s₀ (.compLoop e d (.ref it) .none Xg.env) ((model Xg.prog Xg.w).den (.compLoop e d (.ref it) .none Xg.env)) fs s := by
  intro m
  have stop : ∀ {j : Nat} {acc : List PV} {h : AH}, itAt i h j = some none → accE = acc → hE = h → z = false → ∀ (n : Nat), q0 ≤ n → ∀ (s₀ s : Shared) (ρ : List Addr) (H : Hp), Inv Xg ((a, go) :: ip) τ H s → tn j s.heap → (∀ b ∈ fp, H b = none) → C acc h ρ H → Sub ρi ρ Hi H →
      Seg (model Xg.prog Xg.w) A R (gY X pins σ G k C accF hF a go) n s₀ (.compLoop e d (.ref it) .none Xg.env) ((model Xg.prog Xg.w).den (.compLoop e d (.ref it) .none Xg.env)) fs s := by
    intro j acc h q e1 e2 e3 n hn s₀ s ρ H I st nf hC hS
    subst e1; subst e2
    rw [hden, hturn]
    refine seg_bind_wrap (wpAny_standAt ?_)
    refine seg_bind_wrap ?_
    rw [hov]
    refine wpAny_mono (T.done Xg rfl rfl rfl hcalm j _ s τ H _ I (hfp I nf) st (itr.stop ρ H _ j hS (cons.wf hC) q)) (fun r s1 hr => ?_) fun _ _ x => x
    obtain ⟨rfl, I1⟩ := hr
    show Seg _ _ _ _ _ _ _ (K (.done .next)) _ _
    rw [hK]
    exact hend n hn s₀ s1 ρ H I1 hS hC e3 nf
  induction m with
  | zero =>
    intro j acc h rr n hn s₀ s ρ H I st nf hC hS
    generalize hr0 : (accE, z) = r0 at rr
    cases rr with
    | stop q => cases hr0; exact stop q rfl rfl rfl n (by omega) s₀ s ρ H I st nf hC hS
  | succ m ih =>
    intro j acc h rr n hn s₀ s ρ H I st nf hC hS
    have step : ∀ {x : PV} {b1 : List PV} {fl : Bool} {h1 : AH}, itAt i h j = some (some x) → genF P cl k t c el σb x acc h = some ((b1, fl), h1) → (fl = true → b1 = accF ∧ h1 = hF) →
        (fl = false → Runs (genF P cl k t c el σb) i m (j + 1) b1 h1 (accE, z) hE) →
        Seg (model Xg.prog Xg.w) A R (gY X pins σ G k C accF hF a go) n s₀ (.compLoop e d (.ref it) .none Xg.env) ((model Xg.prog Xg.w).den (.compLoop e d (.ref it) .none Xg.env)) fs s := by
      intro x b1 fl h1 q ef hfl hmore
      obtain ⟨σ1, e1, e2⟩ := genF_inv ef
      obtain ⟨b, h2, e3, e4⟩ := genIn_inv e2
      rw [hden, hturn]
      refine seg_bind_wrap (wpAny_standAt ?_)
      refine seg_bind_wrap ?_
      rw [hov]
      refine wpAny_mono (T.item Xg rfl rfl rfl hcalm j _ s τ H _ I (hfp I nf) st (itr.go ρ H _ j x hS (cons.wf hC) q)) (fun r s1 hr => ?_) fun _ _ x => x
      obtain ⟨u, rfl, h5⟩ := hr
      refine seg_bind_wrap ?_
      rw [hov]
      refine wpAny_mono h5 (fun _ s2 hs2 => ?_) fun _ _ x => x
      obtain ⟨v, H2, I2, r2, y2, st2, nf2⟩ := hs2
      obtain ⟨x3, w3, r3⟩ := itr.yld ρ H _ j x v H2 hS (cons.wf hC) q y2
      have C2 := cons.go hC x3 w3
      have I2' := I2.pinned (hfp I2 nf2) (T.obj _ _ st2)
      have no : ∀ {x : Value} {s' : Shared} {Q : Prop}, Xg.xe x s' → Q := fun {x s' Q} hx => by rw [hxe] at hx; exact hx.elim
      refine seg_bind_wrap ?_
      rw [hov]
      refine wpAny_mono (hg.run _ s2 τ H2 v u (fun σ' H' => H' = H2 ∧ SR G cd ρ H2 σ1 σ' ∧ wipe σ' vs = τ) I2' r2 ⟨ρ, σb, h, x, σ1, sr0.sub (hS.trans x3.sub), w3, wk_rep hwk r3, e1, fun σ' s' sm => ⟨rfl, s', by rw [sm vs hv, hτ]⟩⟩) (fun _ s3 hs3 => ?_) fun _ _ x => no x
      obtain ⟨σ3, H3, I3, hH3, sr3, wp3⟩ := hs3
      rw [hH3] at I3
      -- back to the names as they stood
      have weak : ∀ {H' : Hp} {s' : Shared}, Inv Xg (((a, go) :: ip) ++ pinsAt fp s2.heap) σ3 H' s' → Inv Xg ((a, go) :: ip) τ H' s' ∧ tn (j + 1) s'.heap ∧ ∀ b ∈ fp, H' b = none := fun {H' s'} I' => by
        have pin' : ∀ b ∈ fp, ∀ o, s2.heap.get? b = some o → s'.heap.get? b = some o ∧ H' b = none := fun b hb o e =>
          let z := I'.pin (b, o) (List.mem_append_right _ (List.mem_append_right _ (mem_pinsAt hb e)))
          ⟨z.1, z.2.1⟩
        have hl : τ.length = σ3.length := by rw [← wp3, wipe_length]
        refine ⟨I'.unpinned.weak hl fun j v e => ?_, T.keep _ _ _ st2 fun b hb o e => (pin' b hb o e).1, fun b hb => ?_⟩
        · rw [← wp3] at e
          exact (wipe_some e).1
        · obtain ⟨o, e, _⟩ := T.obj _ _ st2 b hb
          exact (pin' b hb o e).2
      refine seg_bind_wrap ?_
      rw [hov]
      refine wpAny_mono (ht.run _ s3 σ3 H2 (fun b' H' => ∃ ρ', Ext ρ ρ' H2 H' ∧ Wf G ρ' h2 H' ∧ b' = b) I3 ⟨ρ, σ1, h, b, h2, sr3, w3, e3, fun H' ρ' x w => ⟨ρ', x, w, rfl⟩⟩) (fun b' s4 hs4 => ?_) fun _ _ x => no x
      obtain ⟨H4, I4, ρ4, x4, w4, rfl⟩ := hs4
      have C4 := cons.go C2 x4 w4
      cases b' with
      | false =>
        simp only [Bool.false_eq_true, if_false] at e4 ⊢
        obtain ⟨e5, rfl⟩ := e4
        cases e5
        obtain ⟨I5, st5, nf5⟩ := weak I4
        show Seg _ _ _ _ _ _ _ (K (.again _)) _ _
        rw [hK]
        exact seg_again hq (ih (hmore rfl) n (by omega) s₀ s4 ρ4 H4 I5 st5 nf5 C4 (hS.trans (x3.trans x4).sub))
      | true =>
        simp only [if_true] at e4 ⊢
        obtain ⟨y, e5, e6⟩ := e4
        have hy : ∀ v, yieldOut Xg.env v = yieldValue v := fun v => by simp only [yieldOut, hco, Bool.false_eq_true, if_false]
        simp only [hy]
        rw [Sem.bind_eq_wrap', Sem.bind_eq_wrap', Sem.wrap_wrap, Sem.wrap_wrap]
        refine seg_wrap ?_
        rw [hov]
        refine wpAny_mono (he.run _ s4 σ3 H4 (fun u' H' => ∃ ρ', Ext ρ4 ρ' H4 H' ∧ Wf G ρ' h1 H' ∧ Rep G.K ρ' H' y u') I4 ⟨ρ4, σ1, h2, y, h1, sr3.mono x4, w4, e5, fun u' H' ρ' x w r => ⟨ρ', x, w, r⟩⟩) (fun yv s5 hs5 => ?_) fun _ _ x => no x
        obtain ⟨u5, H5, I5, r5, ρ5, x5, w5, rp5⟩ := hs5
        have C5 := cons.go C4 x5 w5
        have pina := I5.pin (a, go) (List.mem_append_right _ (List.mem_append_left _ List.mem_cons_self))
        obtain ⟨n', rfl⟩ : ∃ n', n = n' + 1 := ⟨n - 1, by omega⟩
        refine seg_at (seg_yield hsp rfl hgd ⟨y, u5, acc, h1, ρ5, H5, b1, fl, hback I5.unpinned, pina.1, C5, rp5, r5, e6, hfl, fun hf s'' ρ'' H'' mv sb C'' => ?_⟩)
        obtain ⟨I6, st6, nf6⟩ := weak (mv _ _ _ I5)
        show Seg _ _ _ _ _ _ _ (K (.again _)) _ _
        rw [hK]
        exact seg_again hq (ih (hmore hf) n' (by omega) s'' s'' ρ'' H'' I6 st6 nf6 C'' ((hS.trans (x3.trans (x4.trans x5)).sub).trans sb))
    generalize hr0 : (accE, z) = r0 at rr
    generalize hm0 : m + 1 = m0 at rr
    cases rr with
    | stop q => cases hm0
    | out q ef =>
      cases hr0
      exact step q ef (fun _ => hEF rfl) fun z => by cases z
    | next q ef rr =>
      cases hm0
      subst hr0
      exact step q ef (fun z => by cases z) fun _ => rr
end
end Mi
set_option Elab.async false
set_option linter.all false
set_option maxRecDepth 100000
set_option maxHeartbeats 2000000
/-! Mi V: a generator expression is made -/
namespace Mi
open PySem PySem.Spec PyProof.Rows L2 GenW

theorem codeAmong_app {pos : Pos} {a b : Int} {c cv : Value} (l : List Value) (h : TriplesOk l) (e : codeAmong pos (l ++ [rawInt a, rawInt b, c]) = some cv) : codeAmong pos l = some cv ∨ cv = c := by
  fun_induction TriplesOk l with
  | case1 =>
    simp only [List.nil_append, codeAmong, rawInt] at e
    split at e
    · cases e; exact .inr rfl
    · simp [codeAmong] at e
  | case2 a' t b' u x rest ih =>
    simp only [List.cons_append, codeAmong] at e ⊢
    split at e
    · rename_i hc; rw [if_pos hc]; exact .inl e
    · rename_i hc; rw [if_neg hc]; exact ih h e
  | case3 l h1 h2 => exact h.elim
theorem codeHd_inj {h : Heap} {c P P' : Addr} (a : PySem.W.CodeHd h c P) (b : PySem.W.CodeHd h c P') : P = P' := by
  obtain ⟨o, vs, _, _, _, _, _, _, _, e1, _, e2, e3, _⟩ := a
  obtain ⟨o', vs', _, _, _, _, _, _, _, f1, _, f2, f3, _⟩ := b
  rw [e1] at f1; cases f1
  rw [e2] at f2; cases f2
  rw [e3] at f3; cases f3
  rfl
section
variable {X : Cx} {G : Gs} {pins : List (Addr × Obj)} {σ : L2.St} {H : Hp} {s : Shared} {ρ : List Addr} {h : AH}
/-- the state behind a new code object -/
theorem Wf.code {P c' P' : Addr} {ps : Array Value} {a b : Int} {hp : Heap} (w : Wf G ρ h H) (hP : H P = some (.tbl ps)) (htr : TriplesOk ps.toList) (hps : ∀ (pos : Pos) (cv : Value), codeAmong pos ps.toList = some cv → ∃ c' P', cv = .ref c' ∧ CodeAt G.xc H c' P')
    (n1 : H c' = none) (n2 : H P' = none) (hne : c' ≠ P') (hd : PySem.W.CodeHd hp c' P') :
    Ext ρ ρ H (upd (upd (upd H P (.tbl (ps ++ #[rawInt a, rawInt b, .ref c']))) c' (CodeT c' P')) P' (.tbl #[])) ∧ Wf G ρ h (upd (upd (upd H P (.tbl (ps ++ #[rawInt a, rawInt b, .ref c']))) c' (CodeT c' P')) P' (.tbl #[])) := by
  generalize hH : upd (upd (upd H P (.tbl (ps ++ #[rawInt a, rawInt b, .ref c']))) c' (CodeT c' P')) P' (.tbl #[]) = H'
  have nP1 : P ≠ c' := fun z => by rw [z, n1] at hP; cases hP
  have nP2 : P ≠ P' := fun z => by rw [z, n2] at hP; cases hP
  have at_ : ∀ x o, H x = some o → (∀ qs, o ≠ .tbl qs) → H' x = some o := fun x o e n => by
    have x1 : x ≠ P := fun z => by rw [z, hP] at e; cases e; exact n _ rfl
    rw [← hH, upd_ne (ne_of_none e n2), upd_ne (ne_of_none e n1), upd_ne x1]; exact e
  have tab : ∀ Q qs, Q ≠ P → H Q = some (.tbl qs) → H' Q = some (.tbl qs) := fun Q qs q e => by
    rw [← hH, upd_ne (ne_of_none e n2), upd_ne (ne_of_none e n1), upd_ne q]; exact e
  have hP' : H' P = some (.tbl (ps ++ #[rawInt a, rawInt b, .ref c'])) := by rw [← hH, upd_ne nP2, upd_ne nP1, upd_same]
  have hc' : H' c' = some (CodeT c' P') := by rw [← hH, upd_ne hne, upd_same]
  have hQ' : H' P' = some (.tbl #[]) := by rw [← hH, upd_same]
  have cod : ∀ c0 f, H c0 = some (.ext f) → H' c0 = some (.ext f) := fun c0 f e => at_ c0 _ e (fun qs z => nomatch z)
  have more : ∀ {pos : Pos} {cv : Value} {qs : Array Value}, (∀ (pos : Pos) (cv : Value), codeAmong pos qs.toList = some cv → ∃ c' P', cv = .ref c' ∧ CodeAt G.xc H c' P') → codeAmong pos qs.toList = some cv → ∃ c' P', cv = .ref c' ∧ CodeAt G.xc H' c' P' := fun {pos cv qs} hq e => by
    obtain ⟨c0, P0, h1, h2, h3⟩ := hq pos cv e
    exact ⟨c0, P0, h1, cod _ _ h2, h3⟩
  have nx : ¬ G.xc c' := fun z => w.ct.2.2 _ z n1
  have T : ∀ {Q}, TabT G.xc H Q → TabT G.xc H' Q := fun {Q} ⟨qs, e, r, hq⟩ => by
    by_cases z : Q = P
    · subst z
      rw [hP] at e; cases e
      have hl : (ps ++ #[rawInt a, rawInt b, Value.ref c']).toList = ps.toList ++ [rawInt a, rawInt b, .ref c'] := by simp
      refine ⟨_, hP', by rw [hl]; exact TriplesOk_snoc _ _ _ _ htr, fun pos cv e => ?_⟩
      rw [hl] at e
      rcases codeAmong_app _ htr e with e | e
      · exact more hq e
      · exact ⟨c', P', e, hc', nx⟩
    · exact ⟨qs, tab Q qs z e, r, fun pos cv e => more hq e⟩
  have ext : Ext ρ ρ H H' := ⟨⟨[], by simp, fun a h => by simp at h⟩, fun x o e _ n => at_ x o e n, fun x e => by
    by_cases z : x = P
    · rw [z, hP']; simp
    · cases q : H x with
      | none => exact absurd q e
      | some o => rw [← hH, upd_ne (ne_of_none q n2), upd_ne (ne_of_none q n1), upd_ne z, q]; simp⟩
  refine ⟨ext, w.len, fun l o x h1 h2 => ?_, w.inj, fun p hp => T (w.ct.1 p hp), fun c0 P0 ⟨e, ex⟩ => ?_, fun c0 hx => ext.there c0 (w.ct.2.2 c0 hx)⟩
  · have r := w.obj l o x h1 h2
    refine r.mono ext fun m => ?_
    have := r.soft m
    cases q : H x with
    | none => exact absurd q this.2
    | some u =>
      rw [q] at this
      exact at_ x u q fun qs z => by subst z; exact this.1
  · by_cases z1 : c0 = P'
    · subst z1; rw [hQ'] at e; cases e
    · by_cases z2 : c0 = c'
      · subst z2
        rw [hc'] at e
        have e : CodeT c0 P' = CodeT c0 P0 := Option.some.inj e
        have e : (fun h => PySem.W.CodeHd h c0 P') = fun h => PySem.W.CodeHd h c0 P0 := by injection e
        have hd2 : PySem.W.CodeHd hp c0 P0 := by rw [← congrFun e hp]; exact hd
        obtain rfl := codeHd_inj hd hd2
        exact ⟨#[], hQ', trivial, fun pos cv e => by simp [codeAmong] at e⟩
      · by_cases z3 : c0 = P
        · subst z3; rw [hP'] at e; cases e
        · rw [← hH, upd_ne z1, upd_ne z2, upd_ne z3] at e
          exact T (w.ct.2.1 c0 P0 ⟨e, ex⟩)
theorem gen_code {c P : Addr} {gpos : Pos} {qual : Str} {scope : Scope} {Q : Value → Shared → Prop} {E : Value → Shared → Prop} (I : Inv X pins σ H s) (w : Wf G ρ h H) (hcode : X.env.code = .ref c) (hd : PySem.W.CodeHd s.heap c P) (hT : TabT G.xc H P)
    (q : ∀ c' P' s' H', Inv X pins σ H' s' → Ext ρ ρ H H' → Wf G ρ h H' → CodeAt G.xc H' c' P' → (∀ b o, b ≠ P → s.heap.get? b = some o → s'.heap.get? b = some o) → (∀ b, H b = none → b < s.heap.objs.size → H' b = none) → s.heap.objs.size ≤ s'.heap.objs.size → Q (.ref c') s') :
    wpAny (model X.prog X.w) X.A (genexprCode X.env gpos qual scope) Q E s := by
  obtain ⟨ps, hP, htr, hps⟩ := id hT
  have hPs : s.heap.get? P = some { cls := .none, data := .fields ps } := I.hok P _ hP
  have hPlt : P < s.heap.objs.size := Heap.lt_size hPs
  cases hf : codeAmong gpos ps.toList with
  | some cv =>
    obtain ⟨c', P', rfl, hc'⟩ := hps gpos cv hf
    exact wpAny_genexprCode_hit hcode (hd.code hPs htr) hf (q c' P' s H I Ext.refl w hc' (fun _ _ _ e => e) (fun _ e _ => e) (Nat.le_refl _))
  | none =>
    refine wpAny_genexprCodeX hcode (hd.code hPs htr) (hd.tab hPs) hf fun c' h' tk hx hge hlt hco' _ htab' hnew => ?_
    obtain ⟨P', hge', hco2, htab2⟩ := hnew
    have hd' : PySem.W.CodeHd h' c' P' := PySem.W.CodeHd.of hco2 htab2
    have n1 : H c' = none := I.hok.fresh hge
    have n2 : H P' = none := I.hok.fresh hge'
    have hne : c' ≠ P' := by obtain ⟨o, vs, _, _, _, _, _, _, _, _, _, _, _, _, _, _, _, _, z⟩ := hd'; exact z
    have nP1 : c' ≠ P := Nat.ne_of_gt (Nat.lt_of_lt_of_le hPlt hge)
    have nP2 : P' ≠ P := Nat.ne_of_gt (Nat.lt_of_lt_of_le hPlt hge')
    obtain ⟨x1, w1⟩ := w.code (a := gpos.line) (b := gpos.col) hP htr hps n1 n2 hne hd'
    have I1 := GxR.inv_tab (more := #[rawInt gpos.line, rawInt gpos.col, .ref c']) (h' := h') (g' := s.gens) (d' := s.drawn) (t' := tk) I hP (fun b o hb e => hx b o hb e) htab'.2 I.bare
    have I2 : Inv X pins σ (upd (upd H P (.tbl (ps ++ #[rawInt gpos.line, rawInt gpos.col, .ref c']))) c' (CodeT c' P')) { s with heap := h', toks := tk } := by
      refine I1.take (t' := tk) (h' := h') (fun b o _ e => e) (I.fpOk hge (by rw [upd_ne nP1]; exact n1)) ⟨hd', ?_, fun h1 h2 a b => ?_⟩
      · obtain ⟨o, _, _, _, _, _, _, _, _, e, _⟩ := hd'; exact ⟨o, e⟩
      · obtain ⟨o, vs, file, tf, flags, tg, inF, text, tt, e, r⟩ := a
        exact ⟨o, vs, file, tf, flags, tg, inF, text, tt, b o e, r⟩
    have I3 : Inv X pins σ (upd (upd (upd H P (.tbl (ps ++ #[rawInt gpos.line, rawInt gpos.col, .ref c']))) c' (CodeT c' P')) P' (.tbl #[])) { s with heap := h', toks := tk } :=
      I2.take (t' := tk) (h' := h') (fun b o _ e => e) (I.fpOk hge' (by rw [upd_ne (Ne.symm hne), upd_ne nP2]; exact n2)) htab2.2
    refine q c' P' _ _ I3 x1 w1 ⟨by rw [upd_ne hne, upd_same], fun z => w.ct.2.2 _ z n1⟩ (fun b o hb e => hx b o hb e) (fun b e hb => ?_) (Nat.le_trans hge (Nat.le_of_lt hlt))
    have b1 : b ≠ P := fun z => by rw [z, hP] at e; cases e
    have b2 : b ≠ c' := fun z => by rw [z] at hb; exact absurd hb (Nat.not_lt.mpr hge)
    have b3 : b ≠ P' := fun z => by rw [z] at hb; exact absurd hb (Nat.not_lt.mpr hge')
    rw [upd_ne b3, upd_ne b2, upd_ne b1]; exact e
end
end Mi
set_option Elab.async false
set_option linter.all false
set_option maxRecDepth 100000
set_option maxHeartbeats 2000000
/-! Mi W: a generator expression of one clause, made -/
namespace Mi
open PySem PySem.Spec PyProof.Rows L2 GenW

theorem over_gen {A : Around} {elt : Expr} {gens : List Comprehension} {scope : Scope} {pos : Pos} {it acc : Value} {env : Env} : A.over (.compLoop (.GeneratorExp elt gens scope pos) 0 it acc env) [] = A.deeper env := by
  first
    | rfl
    | (obtain ⟨hd, d, fr, gs, u⟩ := A; simp [Around.over, Around.deeper, marksOver, frameCount, unitsOf, envsOf, guardsOf, pushEnvs, pushGuards, Code.envs, Code.env?, Code.isFrame, Code.guards, Code.isGuard, Code.weight, Code.frames, Code.isCreation, Code.isCaller, Code.cUnits])
theorem over_genS {A : Around} {elt : Expr} {gens : List Comprehension} {scope : Scope} {pos : Pos} {it acc : Value} {env : Env} : A.over (.compStart (.GeneratorExp elt gens scope pos) 0 it acc env) [] = A.deeper env := by
  first
    | rfl
    | (obtain ⟨hd, d, fr, gs, u⟩ := A; simp [Around.over, Around.deeper, marksOver, frameCount, unitsOf, envsOf, guardsOf, pushEnvs, pushGuards, Code.envs, Code.env?, Code.isFrame, Code.guards, Code.isGuard, Code.weight, Code.frames, Code.isCreation, Code.isCaller, Code.cUnits])
@[reducible] def in5 (A : Around) : Around := A.in1.in1.in1.in1.in1
theorem room5 {k : Nat} {A : Around} {env : Env} (r : Room (k + 1) A) : Room k ((in5 A).deeper env) :=
  ⟨r.hd, by have := r.dp; show A.depth + 1 + 3 * k + 5 < _; omega, by have := r.un; show A.units + 1 + 1 + 1 + 1 + 1 + 3 + 16 * k + 200 < _; omega⟩
def CodeOk (X : Cx) (G : Gs) (cd : Option (Addr × Addr)) : Prop := ∃ c P, X.env.code = .ref c ∧ ((cd = none ∧ (c, P) ∈ G.cs ∧ PySem.W.CodeHd X.base c P) ∨ cd = some (c, P))
theorem CodeOk.get {X : Cx} {G : Gs} {cd : Option (Addr × Addr)} {pins : List (Addr × Obj)} {σ : L2.St} {H : Hp} {s : Shared} {ρ ρ0 : List Addr} {H0 : Hp} {h : AH} {σp : Env1} (c : CodeOk X G cd) (I : Inv X pins σ H s) (w : Wf G ρ h H) (sr : SR G cd ρ H σp σ) : ∃ c P, X.env.code = .ref c ∧ PySem.W.CodeHd s.heap c P ∧ TabT G.xc H P := by
  obtain ⟨c, P, e, ⟨rfl, hm, hd⟩ | rfl⟩ := c
  · exact ⟨c, P, e, hd.keeps I.bk, w.ct.1 _ hm⟩
  · have q := sr.code _ rfl
    exact ⟨c, P, e, (I.hok c _ q.1).1, w.ct.2.1 c P q⟩
theorem ItR.mono {wk : Bool} {G : Gs} {ρ ρ' : List Addr} {H H' : Hp} {i : It1} {J : It} (r : ItR wk G ρ H i J) (e : Sub ρ ρ' H H') : ItR wk G ρ' H' i J :=
  ⟨fun ρ2 H2 h j x w q => r.stop ρ2 H2 h j (e.trans x) w q, fun ρ2 H2 h j x y w q => r.go ρ2 H2 h j x (e.trans y) w q, fun ρ2 H2 h j x v H3 y w q z => r.yld ρ2 H2 h j x v H3 (e.trans y) w q z⟩
section
variable {X : Cx} {G : Gs} {cd : Option (Addr × Addr)} {P : Pg} {cl : Cl}
/-- a generator that has not begun, and what it will do -/
def GMd (X : Cx) (pins : List (Addr × Obj)) (σ : L2.St) (G : Gs) (k : Gc) (ρ1 : List Addr) (H1 : Hp) (h1 : AH) (accF : List PV) (z : Bool) (hF : AH) (v : Value) (s : Shared) : Prop :=
  ∃ (a : Addr) (gi : Nat) (go : Obj) (m0 : Nat) (c : Code), v = .ref a ∧ s.heap.get? a = some go ∧ (∀ h : Heap, h.get? a = some go → h.IsGen a gi) ∧ s.gens[gi]? = some (.fresh c) ∧ Inv X pins σ H1 s ∧ Wf G ρ1 h1 H1 ∧
    ∀ C, Cons G ρ1 H1 C → ∀ n, m0 ≤ n → ∀ s'' ρ'' H'', Mv H1 H'' s s'' → C [] h1 ρ'' H'' →
      Seg (model X.prog X.w) (in5 X.A) (gR X pins σ C accF z hF) (gY X pins σ G k C accF hF a go) n s'' c ((model X.prog X.w).den c) [] s''
/-- what holds of the contexts of a generator expression's own code -/
abbrev GenCx (X : Cx) (scope : Scope) (φ : Cx → Option (Addr × Addr) → Prop) : Prop := ∀ (s : Shared) (H : Hp) (cenv : Env) (fp : List Addr) (A : Around) (c' P' : Addr), cenv.scope = scope → cenv.code = .ref c' → (∀ k, Room (k + 1) X.A → Room k A) → φ (gCx X s H scope cenv fp A) (some (c', P'))
theorem gen_made {k : Gc} {t it c e : E} {elt tg iter : Expr} {ifs : List Expr} {scope : Scope} {own : List (Str × Nat)} {gpos : Pos} {pins : List (Addr × Obj)} {s : Shared} {σ : L2.St} {H : Hp} {ρ : List Addr} {σp : Env1} {h h1 hF : AH} {i : It1} {accF : List PV} {z : Bool} {r : Nat}
    (hr : Room (r + 1) X.A) (hc : X.calm = true) (hN : X.N.Nodup) (hco : CodeOk X G cd) (hbt : ∃ P0, X.base.BuiltinsAt X.mg P0) (hsco : scope.isCoroutine = false) (ok : BlkOk X.N X.env.scope scope own) (nc : ∀ y ∈ scope.names, y.2 ≠ .cell) (h0 : scope.names.lookup (".0" : Str) = some NameKind.local)
    (hi : PI X tg iter (RI G cd P cl it)) (hg : GenCx X scope fun Y cd' => PG Y tg (rdG G cd' t)) (ht : GenCx X scope fun Y cd' => PTs Y ifs (RT G cd' P cl c)) (he : GenCx X scope fun Y cd' => PE Y elt (RE G cd' P cl e)) (hs : ∀ x, genFold iter X.env x = pure x)
    (hwk : it.weak = true → t.isTup = true) (hv : ∀ i ∈ tgVars t, i ∈ own.map (·.2)) (I : Inv X pins σ H s) (sr : SR G cd ρ H σp σ) (wf : Wf G ρ h H) (ei : evI P cl it σp h = some (i, h1)) (ew : walk (genF P cl k t c e (wipeP σp (own.map (·.2)))) i [] h1 = some ((accF, z), hF)) :
    wpAny (model X.prog X.w) X.A (eval (.GeneratorExp elt [⟨tg, iter, ifs, 0⟩] scope gpos) X.env) (fun v s' => ∃ H1 ρ1, Ext ρ ρ1 H H1 ∧ GMd X pins σ G k ρ1 H1 h1 accF z hF v s') X.xe s := by
  obtain ⟨m0, run⟩ := walk_runs ew
  have hfree : ∀ y ∈ scope.names, y.2 = .free → ∃ c, X.env.cells.lookup y.1 = some c := fun y hy e => by
    rcases ok.free y hy e with k | k
    · exact I.ok.has _ (.inl k)
    · exact I.ok.has _ (.inr k)
  refine wpAny_GeneratorExp_make hsco (closure_ok hfree) nc h0 ok.kind hr.depth ?_ hs
  refine thn (hi.run pins s σ H (fun J H1 => ∃ ρ1, Ext ρ ρ1 H H1 ∧ Wf G ρ1 h1 H1 ∧ ItR it.weak G ρ1 H1 i J) I ⟨ρ, σp, h, i, h1, sr, wf, ei, fun J H' ρ' x w it => ⟨ρ', x, w, it⟩⟩) fun xv s1 hx => thn hx fun itv s2 h2 => ?_
  obtain ⟨ia, fp, tn, J, H2, rfl, I2, T, st2, f2, ρ2, x2, w2, itr⟩ := h2
  refine ⟨I2.nolimit, ?_⟩
  obtain ⟨c0, P0, ec, hd0, hT0⟩ := hco.get (ρ0 := ρ) (H0 := H) I2 w2 (sr.mono x2)
  have fT : ∀ b ∈ fp, b ≠ P0 := fun b hb z => by
    obtain ⟨ps, hP, _⟩ := hT0
    have := (f2 b hb).1
    rw [z, hP] at this; cases this
  refine gen_code I2 w2 ec hd0 hT0 fun c' P' s3 H3 I3 x3 w3 hcc k3 n3 sz3 => ?_
  obtain ⟨_, bm, ob, e1, e2, _, _, e5, e6, e7, e8⟩ := hbt
  refine wpAny_builtinsFor (m := X.mg) (by rw [I3.ok.glob]; exact I3.mod.glob.keeps I3.bk) e1 e2 (I3.bk _ _ e5) e6 e7 e8 ?_
  intro h' hn' sb
  generalize hcv : genEnv scope (cloFrom X.env.cells scope.names []) s3.heap.objs.size (.ref c') builtinsNs X.env = cenv
  have cL : cenv.locals = s3.heap.objs.size := by rw [← hcv]; rfl
  have cC : cenv.cells = cloFrom X.env.cells scope.names [] := by rw [← hcv]; rfl
  have cS : cenv.scope = scope := by rw [← hcv]; rfl
  have cG : cenv.globals = mainGlobals := by rw [← hcv]; exact I3.ok.glob
  have cB : cenv.builtins = builtinsNs := by rw [← hcv]; rfl
  have cF : cenv.frame = some cenv.locals := by rw [← hcv]; rfl
  have cD : cenv.code = .ref c' := by rw [← hcv]; rfl
  have kp : ∀ b o, s3.heap.get? b = some o → h'.get? b = some o := fun b o e => (sb.2 b (Nat.ne_of_lt (Heap.lt_size e))).trans (Heap.get?_push_of_some _ e)
  have hsz : s3.heap.objs.size < h'.objs.size := hn'.lt
  generalize hgo : ({ cls := .type "generator", data := .fields #[.int s3.gens.size 0, .str "<genexpr>" (s3.toks + 1), .str (X.env.qual ++ "<genexpr>") (s3.toks + 1 + 1)] } : Obj) = go
  have goG : ∀ hh : Heap, hh.get? h'.objs.size = some go → hh.IsGen h'.objs.size s3.gens.size := fun hh e => ⟨go, _, _, e, by rw [← hgo], by rw [← hgo], by rw [← hgo]⟩
  have goC : ∀ v, go.data ≠ .cell v := fun v q => by rw [← hgo] at q; cases q
  have goA : (h'.push go).get? h'.objs.size = some go := Heap.get?_push_size _ (by rw [← hgo]; rfl)
  have kp2 : ∀ b o, s3.heap.get? b = some o → (h'.push go).get? b = some o := fun b o e => Heap.get?_push_of_some _ (kp b o e)
  -- the iterator's objects
  have fpl : ∀ b ∈ fp, b < s2.heap.objs.size := fun b hb => by
    obtain ⟨o, e, _⟩ := T.obj _ _ st2 b hb
    exact Heap.lt_size e
  have f3 : ∀ b ∈ fp, FpOk X pins H3 b ∧ b < s3.heap.objs.size := fun b hb => ⟨⟨n3 b (f2 b hb).1 (fpl b hb), (f2 b hb).2⟩, Nat.lt_of_lt_of_le (fpl b hb) sz3⟩
  have st3 : tn 0 s3.heap := T.keep _ _ _ st2 fun b hb o e => k3 b o (fT b hb) e
  have hg4 : AllBare (s3.gens.push (.fresh (.compStart (.GeneratorExp elt [⟨tg, iter, ifs, 0⟩] scope gpos) 0 (.ref ia) .none cenv))) := AllBare.push I3.bare rfl
  generalize hgs : s3.gens.push (.fresh (.compStart (.GeneratorExp elt [⟨tg, iter, ifs, 0⟩] scope gpos) 0 (.ref ia) .none cenv)) = gs4 at hg4
  have IX : Inv X pins σ H3 { s3 with heap := h'.push go, gens := gs4, toks := s3.toks + 1 + 1 + 1 } := mv_gens (s := { s3 with heap := h'.push go, toks := s3.toks + 1 + 1 + 1 }) hg4 X pins σ (I3.kept kp2)
  have Ag : ((in5 X.A).deeper cenv).frames = some (cenv :: X.stack) := by
    show X.A.frames.map (cenv :: ·) = _
    rw [I3.ok.frames]; rfl
  have Ig : Inv (gCx X s3 H3 scope cenv fp ((in5 X.A).deeper cenv)) [] (wipe σ (own.map (·.2))) H3 { s3 with heap := h'.push go, gens := gs4, toks := s3.toks + 1 + 1 + 1 } :=
    gen_inv I3 ok nc hN f3 cL cC cS cG cB cF Ag (fun _ => hr.hd) (m0 := _) (hn'.push _) kp2 hg4
  have stat : ∀ {ip : List (Addr × Obj)} {σ' : L2.St} {H' : Hp} {s' : Shared}, (∀ p ∈ ip, p.1 = h'.objs.size) → Inv (gCx X s3 H3 scope cenv fp ((in5 X.A).deeper cenv)) ip σ' H' s' → (∀ b ∈ fp, H' b = none) → ∀ b ∈ fp, FpOk (gCx X s3 H3 scope cenv fp ((in5 X.A).deeper cenv)) ip H' b := fun {ip σ' H' s'} hip I' hn b hb =>
    ⟨hn b hb, (I'.ok.exf b hb).1, I'.ok.exfs b hb, .inl hb, fun x c e => (I'.ok.exf b hb).2 x c e, fun p hp z => by
      have hp : p ∈ ([] : List (Addr × Obj)) ++ ip := hp
      rw [List.nil_append] at hp
      have z2 := hip p hp
      rw [z] at z2
      have := (f3 b hb).2
      rw [z2] at this
      exact absurd (Nat.lt_trans this hsz) (Nat.lt_irrefl _)⟩
  have Ia : Inv (gCx X s3 H3 scope cenv fp ((in5 X.A).deeper cenv)) [(h'.objs.size, go)] (wipe σ (own.map (·.2))) H3 { s3 with heap := h'.push go, gens := gs4, toks := s3.toks + 1 + 1 + 1 } := by
    refine Ig.pins_of fun p hp => ?_
    rw [List.mem_singleton.mp hp]
    refine ⟨goA, I3.hok.fresh (Nat.le_of_lt hsz), ?_, fun z => ?_, goC⟩
    · show h'.objs.size ≠ cenv.locals
      rw [cL]; exact Nat.ne_of_gt hsz
    · have z : h'.objs.size ∈ frs X.stack := z
      rcases List.mem_cons.mp (I3.stkSub _ z) with z | z
      · have := I3.lt; rw [← z] at this; exact absurd (Nat.lt_trans this hsz) (Nat.lt_irrefl _)
      · exact I3.nofs (Nat.le_of_lt hsz) z
  have hback : ∀ {σ' : L2.St} {H' : Hp} {s' : Shared}, Inv (gCx X s3 H3 scope cenv fp ((in5 X.A).deeper cenv)) [(h'.objs.size, go)] σ' H' s' → Inv X pins σ H' s' := fun {σ' H' s'} I' =>
    I3.call' (ch := fp) I'.os I'.base I'.hok I'.bare fun b hb => ⟨(f3 b hb).1.2.2.2.1, (f3 b hb).1.2.1, (f3 b hb).1.2.2.2.2.1, (f3 b hb).1.2.2.2.2.2⟩
  refine ⟨H3, ρ2, x2.trans x3, h'.objs.size, s3.gens.size, go, m0, .compStart (.GeneratorExp elt [⟨tg, iter, ifs, 0⟩] scope gpos) 0 (.ref ia) .none cenv, rfl, goA, goG, by rw [← hgs]; exact Array.getElem?_push_size .., IX, w3, fun C cons n hmn s'' ρ'' H'' mv hC => ?_⟩
  -- it begins
  have stb : ∀ b ∈ fp, ∃ o, ({ s3 with heap := h'.push go, gens := gs4, toks := s3.toks + 1 + 1 + 1 } : Shared).heap.get? b = some o ∧ ∀ v, o.data ≠ .cell v := T.obj 0 _ (T.keep _ _ _ st3 fun b hb o e => kp2 b o e)
  have st4 : tn 0 (h'.push go) := T.keep _ _ _ st3 fun b hb o e => kp2 b o e
  have Ip := mv _ _ _ (Ia.pinned (stat (fun p hp => by rw [List.mem_singleton.mp hp]) Ia fun b hb => (f3 b hb).1.1) stb)
  have I5 := Ip.unpinned
  have st5 : tn 0 s''.heap := T.keep _ _ _ st4 fun b hb o e => (Ip.pin (b, o) (List.mem_append_right _ (List.mem_append_right _ (mem_pinsAt hb e)))).1
  have nf5 : ∀ b ∈ fp, H'' b = none := fun b hb => by
    obtain ⟨o, e, _⟩ := T.obj 0 _ st4 b hb
    exact (Ip.pin (b, o) (List.mem_append_right _ (List.mem_append_right _ (mem_pinsAt hb e)))).2.1
  have srg : SR G (some (c', P')) ρ2 H3 (wipeP σp (own.map (·.2))) (wipe σ (own.map (·.2))) := by
    have a := ((sr.mono x2).mono x3).wipe (own.map (·.2))
    exact ⟨a.len, fun p hp => by cases hp; exact hcc, a.at_⟩
  have rm : ∀ k, Room (k + 1) X.A → Room k ((in5 X.A).deeper cenv) := fun k r => room5 r
  have loop : ∀ s₀, Seg (model X.prog X.w) (in5 X.A) (gR X pins σ C accF z hF) (gY X pins σ G k C accF hF h'.objs.size go) n s₀ (.compLoop (.GeneratorExp elt [⟨tg, iter, ifs, 0⟩] scope gpos) 0 (.ref ia) .none cenv)
      ((model X.prog X.w).den (.compLoop (.GeneratorExp elt [⟨tg, iter, ifs, 0⟩] scope gpos) 0 (.ref ia) .none cenv)) [] s'' := fun s₀ => by
    refine seg_last (Xg := gCx X s3 H3 scope cenv fp ((in5 X.A).deeper cenv)) (X := X) (ip := []) (σ := σ) (vs := own.map (·.2)) (pos0 := iter.pos) (pos1 := elt.pos) (K := .pure) (Jx := fun e => (leaving cenv e).bind fun _ => .raise e) cons hc hback over_gen rfl rfl rfl ?_ (fun _ => rfl) rfl rfl ?_ T
      (hg s3 H3 cenv fp _ c' P' cS cD rm) (ht s3 H3 cenv fp _ c' P' cS cD rm) (he s3 H3 cenv fp _ c' P' cS cD rm) (fun I' hn => stat (fun p hp => by rw [List.mem_singleton.mp hp]) I' hn) hwk hv (wipe_idem _ _ σ fun i hi => hi) (itr.mono x3.sub) srg (fun _ => ⟨rfl, rfl⟩) (q0 := 0) ?_ m0 run n hmn s₀ s'' ρ'' H'' I5 st5 nf5 hC (cons.sub hC)
    · show (compTurn _ _ _ _ _).onRaise (leaving cenv) = _
      rw [Sem.onRaise_eq_wrap]
    · show cenv.scope.isCoroutine = false
      rw [cS]; exact hsco
    · intro n _ s₀ s ρ H I _ hCf hz _
      exact seg_end (.ok .next) ⟨rfl, hz, ρ, H, hback I, hCf⟩
  show Seg _ _ _ _ n s'' _ ((compStart (.GeneratorExp elt [⟨tg, iter, ifs, 0⟩] scope gpos) 0 (.ref ia) .none cenv).onRaise (leaving cenv)) [] s''
  unfold compStart
  rw [Sem.onRaise_eq_wrap]
  show Seg _ _ _ _ n s'' _ ((ask >>= _).wrap _ _ _ _) [] s''
  refine seg_bind_wrap (wpAny_askSetting ?_)
  split
  · exact seg_again rfl (loop _)
  · first
      | exact seg_bind_wrap (wpAny_rule (seg_bind_wrap (wpAny_standAt (seg_bind_wrap (T.self _ 0 s'' _ _ st5 (seg_again rfl (loop _)))))))
      | (refine seg_bind_wrap (wpAny_rule ?_); show Seg _ _ _ _ n s'' _ ((standAt iter.pos >>= _).wrap _ _ _ _) [] s''; exact seg_bind_wrap (wpAny_standAt (seg_bind_wrap (T.self _ 0 s'' _ _ st5 (seg_again rfl (loop _))))))
end
end Mi
set_option Elab.async false
set_option linter.all false
set_option maxRecDepth 100000
set_option maxHeartbeats 2000000
/-! Mi X: what eats a generator -/
namespace Mi
open PySem PySem.Spec PyProof.Rows L2 GenW

section
variable {X : Cx} {G : Gs} {cd : Option (Addr × Addr)} {P : Pg} {cl : Cl}
/-- ready to be woken: n more at most -/
structure GAt (X : Cx) (pins : List (Addr × Obj)) (σ : L2.St) (G : Gs) (k : Gc) (C : List PV → AH → List Addr → Hp → Prop) (accF : List PV) (z : Bool) (hF : AH) (a : Addr) (gi : Nat) (go : Obj) (n : Nat) (s : Shared) : Prop where
  at_ : s.heap.get? a = some go
  lim : s.heap.NoLimit
  goes : ∃ gs, s.gens[gi]? = some gs ∧ gs.Goes (model X.prog X.w) (in5 X.A) (gR X pins σ C accF z hF) (gY X pins σ G k C accF hF a go) n (.send .none) (s.setGen gi .running)
/-- the generator's last state -/
def GEnd (X : Cx) (pins : List (Addr × Obj)) (σ : L2.St) (C : List PV → AH → List Addr → Hp → Prop) (accF : List PV) (hF : AH) (s : Shared) : Prop := ∃ ρ H, Inv X pins σ H s ∧ C accF hF ρ H
theorem g_next4 {pins : List (Addr × Obj)} {σ : L2.St} {k : Gc} {C : List PV → AH → List Addr → Hp → Prop} {accF : List PV} {z : Bool} {hF : AH} {a : Addr} {gi : Nat} {go : Obj} {n : Nat} {s : Shared} {Q : Option Value → Shared → Prop} {E : Value → Shared → Prop}
    (hh : X.A.handled = none) (hroom : X.A.depth < recursionLimit) (hG : ∀ h : Heap, h.get? a = some go → h.IsGen a gi) (g : GAt X pins σ G k C accF z hF a gi go n s)
    (hY : ∀ v s1 x u acc h ρ H acc' st, s1.heap.get? a = some go → Inv X pins σ H s1 → C acc h ρ H → Rep G.K ρ H x u → RelV u v → eat k acc x h = some (acc', st) → (st = true → acc' = accF ∧ h = hF) →
      (st = false → ∀ s'' ρ'' H'', Mv H H'' s1 s'' → Sub ρ ρ'' H H'' → C acc' h ρ'' H'' → s''.heap.get? a = some go → s''.gens[gi]? = s1.gens[gi]? → 0 < n ∧ GAt X pins σ G k C accF z hF a gi go (n - 1) s'') → Q (some v) s1)
    (hP : ∀ s1, z = false → GEnd X pins σ C accF hF s1 → Q none s1) : wpAny (model X.prog X.w) X.A.in1.in1.in1.in1 (pyNext (.ref a)) Q E s := by
  obtain ⟨gs, hgs, hgo⟩ := g.goes
  have hlt : gi < s.gens.size := (Array.getElem?_eq_some_iff.mp hgs).1
  refine wpAny_gsz (n := gi + 1) hlt ?_
  refine wpAny_pyNext_genexpQ (A := X.A.in1.in1.in1.in1) hh g.lim hroom (hG _ g.at_) hgs hgo (fun v s1 gs' hb hy => ?_) fun s1 hp h' hk => ?_
  · intro hsz
    obtain ⟨x, u, acc, h, ρ, H, acc', st, I, ha, hC, r, rv, he, hst, hk⟩ := hy
    have hb1 : AllBare (s1.setGen gi gs').gens := allBare_setGen I.bare hb
    have I1 : Inv X pins σ H (s1.setGen gi gs') := mv_gens hb1 X pins σ I
    have hsz1 : gi < s1.gens.size := by
      have q : (s1.setGen gi gs').gens.size = s1.gens.size := GenW.setGen_size _ _ _
      have hsz' : gi + 1 ≤ (s1.setGen gi gs').gens.size := hsz
      omega
    refine hY v _ x u acc h ρ H acc' st ha I1 hC r rv he hst fun hf s'' ρ'' H'' mv sb hC'' ha'' hg'' => ?_
    have I2 := mv X pins σ I1
    have hb2 : AllBare (s''.setGen gi .running).gens := allBare_setGen I2.bare rfl
    have mv2 : Mv H H'' s1 (s''.setGen gi .running) := (mv_gens hb1).trans (mv.trans (mv_gens hb2))
    have kk := hk hf _ ρ'' H'' mv2 sb hC''
    cases n with
    | zero => exact kk.elim
    | succ m =>
      refine ⟨Nat.succ_pos _, ha'', I2.nolimit, gs', ?_, kk⟩
      rw [hg'']
      exact setGen_at hsz1
  · intro _
    obtain ⟨hz, ρ, H, I, hC⟩ := hp
    have hb1 : AllBare (s1.setGen gi .finished).gens := allBare_setGen I.bare rfl
    exact hP _ hz ⟨ρ, H, mv_gens hb1 X pins σ I |>.kept (t' := s1.toks) hk, hC⟩
/-- the first waking -/
theorem g_first {pins : List (Addr × Obj)} {σ : L2.St} {k : Gc} {ρ1 : List Addr} {H1 : Hp} {h1 : AH} {accF : List PV} {z : Bool} {hF : AH} {v : Value} {s : Shared} (g : GMd X pins σ G k ρ1 H1 h1 accF z hF v s) :
    ∃ a gi go m0, v = .ref a ∧ s.heap.get? a = some go ∧ (∀ h : Heap, h.get? a = some go → h.IsGen a gi) ∧ gi < s.gens.size ∧ Inv X pins σ H1 s ∧ Wf G ρ1 h1 H1 ∧
      ∀ C, Cons G ρ1 H1 C → ∀ n, m0 ≤ n → ∀ s'' ρ'' H'', Mv H1 H'' s s'' → C [] h1 ρ'' H'' → s''.heap.get? a = some go → s''.gens[gi]? = s.gens[gi]? → GAt X pins σ G k C accF z hF a gi go n s'' := by
  obtain ⟨a, gi, go, m0, c, rfl, ha, hG, hgs, I, w, wake⟩ := g
  refine ⟨a, gi, go, m0, rfl, ha, hG, (Array.getElem?_eq_some_iff.mp hgs).1, I, w, fun C cons n hn s'' ρ'' H'' mv hC ha'' hg'' => ?_⟩
  have I2 := mv X pins σ I
  have hb2 : AllBare (s''.setGen gi .running).gens := allBare_setGen I2.bare rfl
  exact ⟨ha'', I2.nolimit, .fresh c, by rw [hg'']; exact hgs, rfl, wake C cons n hn _ ρ'' H'' (mv.trans (mv_gens hb2)) hC⟩
/-- what eats a generator, by values -/
def ConR (X : Cx) (G : Gs) (k : Gc) (f : Value) : Prop := ∀ pins σ ρ1 H1 h1 accF z hF v s w h' Q, GMd X pins σ G k ρ1 H1 h1 accF z hF v s → eaten k accF hF = some (w, h') → Go G ρ1 H1 h' w Q → wpAny (model X.prog X.w) X.A (call f [v]) (EP X pins σ Q) X.xe s

/-! ### all, any -/
theorem con_all (hh : X.A.handled = none) (hroom : X.A.depth < recursionLimit) : ConR X G .all (.builtin "all") := by
  intro pins σ ρ1 H1 h1 accF z hF v s w h' Q g he go
  obtain ⟨a, gi, gob, m0, rfl, ha, hG, hgi, I, w1, start⟩ := g_first g
  refine call_function_tree F.kind_all F.plain_all F.entry_all (F.args_all1 _) ?_
  unfold Builtin.«all»
  refine wpAny_bind (m := oneArg "all" _) (wpAny_pure ?_)
  refine wpAny_bind (wpAny_pyIter_gen (hG _ ha) ?_)
  refine wpAny_pure ⟨plainId_quiet F.plain_all_loop _, ?_⟩
  let C : List PV → AH → List Addr → Hp → Prop := fun acc h ρ H => Ext ρ1 ρ H1 H ∧ Wf G ρ h H ∧ acc = []
  have cons : Cons G ρ1 H1 C := ⟨fun hC e w => ⟨hC.1.trans e, w, hC.2.2⟩, fun hC => hC.2.1, fun hC => hC.1.sub⟩
  have fin : ∀ {s' : Shared} {ρ : List Addr} {H : Hp} {b : Bool}, Inv X pins σ H s' → Ext ρ1 ρ H1 H → Wf G ρ hF H → b = accF.isEmpty → wants (EP X pins σ Q) X.xe (.ok (.ret (.bool b))) s' := fun {s' ρ H b} I' x' w' hb => by
    have he : some (PV.bl accF.isEmpty, hF) = some (w, h') := he
    cases he
    subst hb
    exact ⟨.bl accF.isEmpty, H, I', rfl, go _ H ρ x' w' (.bl _)⟩
  have loop : ∀ (n : Nat) (s : Shared), GAt X pins σ G .all C accF z hF a gi gob n s → codeAny (model X.prog X.w) X.A (.builtin "all.loop" ⟨[.ref a], []⟩) (wants (EP X pins σ Q) X.xe) s := by
    intro n
    induction n using Nat.strongRecOn with
    | ind n ih =>
      intro s g
      refine codeAny_builtin F.entry_all_loop ?_
      rw [Around.under_plainId F.plain_all_loop _]
      show wpAny _ X.A.in1 (pyNext (.ref a) >>= _) _ _ s
      refine wpAny_bind (wpAny_of_in1 (wpAny_of_in1 (wpAny_of_in1 (g_next4 hh hroom hG g (fun v s1 x u acc h ρ H acc' st ha1 I1 hC r rv he hst hk => ?_) fun s1 hz hE => ?_))))
      · have key : ∃ b, x = .bl b ∧ (b = true → acc' = [] ∧ st = false) ∧ (b = false → acc' = [.bl false] ∧ st = true) := by
          cases x with
          | bl b => cases b <;> (cases he; exact ⟨_, rfl, by simp, by simp⟩)
          | _ => cases he
        obtain ⟨b, rfl, k1, k2⟩ := key
        obtain rfl := r.bl_of
        cases rv
        refine wpAny_bind (wpAny_holding (wpAny_truthy_bool ?_))
        refine wpAny_bind (wpAny_letGo ?_)
        cases b with
        | true =>
          obtain ⟨rfl, rfl⟩ := k1 rfl
          simp only [if_true]
          obtain ⟨hn, g2⟩ := hk rfl s1 ρ H Mv.refl Sub.refl ⟨hC.1, hC.2.1, rfl⟩ ha1 rfl
          exact wpAny_pure ⟨plainId_quiet F.plain_all_loop _, ih (n - 1) (by omega) s1 g2⟩
        | false =>
          obtain ⟨rfl, rfl⟩ := k2 rfl
          simp only [Bool.false_eq_true, if_false]
          obtain ⟨e1, e2⟩ := hst rfl
          subst e1; subst e2
          refine wpAny_bind (wpAny_rule (wpAny_pure ?_))
          exact fin I1 hC.1 hC.2.1 rfl
      · obtain ⟨ρ, H, I1, hC⟩ := hE
        refine wpAny_bind (wpAny_rule (wpAny_pure ?_))
        have e := hC.2.2
        subst e
        exact fin I1 hC.1 hC.2.1 rfl
  exact loop m0 s (start C cons m0 (Nat.le_refl _) s ρ1 H1 Mv.refl ⟨Ext.refl, w1, rfl⟩ ha rfl)
theorem con_any (hh : X.A.handled = none) (hroom : X.A.depth < recursionLimit) : ConR X G .any (.builtin "any") := by
  intro pins σ ρ1 H1 h1 accF z hF v s w h' Q g he go
  obtain ⟨a, gi, gob, m0, rfl, ha, hG, hgi, I, w1, start⟩ := g_first g
  refine call_function_tree F.kind_any F.plain_any F.entry_any (F.args_any1 _) ?_
  unfold Builtin.«any»
  refine wpAny_bind (m := oneArg "any" _) (wpAny_pure ?_)
  refine wpAny_bind (wpAny_pyIter_gen (hG _ ha) ?_)
  refine wpAny_pure ⟨plainId_quiet F.plain_any_loop _, ?_⟩
  let C : List PV → AH → List Addr → Hp → Prop := fun acc h ρ H => Ext ρ1 ρ H1 H ∧ Wf G ρ h H ∧ acc = []
  have cons : Cons G ρ1 H1 C := ⟨fun hC e w => ⟨hC.1.trans e, w, hC.2.2⟩, fun hC => hC.2.1, fun hC => hC.1.sub⟩
  have fin : ∀ {s' : Shared} {ρ : List Addr} {H : Hp} {b : Bool}, Inv X pins σ H s' → Ext ρ1 ρ H1 H → Wf G ρ hF H → b = !accF.isEmpty → wants (EP X pins σ Q) X.xe (.ok (.ret (.bool b))) s' := fun {s' ρ H b} I' x' w' hb => by
    have he : some (PV.bl (!accF.isEmpty), hF) = some (w, h') := he
    cases he
    subst hb
    exact ⟨.bl (!accF.isEmpty), H, I', rfl, go _ H ρ x' w' (.bl _)⟩
  have loop : ∀ (n : Nat) (s : Shared), GAt X pins σ G .any C accF z hF a gi gob n s → codeAny (model X.prog X.w) X.A (.builtin "any.loop" ⟨[.ref a], []⟩) (wants (EP X pins σ Q) X.xe) s := by
    intro n
    induction n using Nat.strongRecOn with
    | ind n ih =>
      intro s g
      refine codeAny_builtin F.entry_any_loop ?_
      rw [Around.under_plainId F.plain_any_loop _]
      show wpAny _ X.A.in1 (pyNext (.ref a) >>= _) _ _ s
      refine wpAny_bind (wpAny_of_in1 (wpAny_of_in1 (wpAny_of_in1 (g_next4 hh hroom hG g (fun v s1 x u acc h ρ H acc' st ha1 I1 hC r rv he hst hk => ?_) fun s1 hz hE => ?_))))
      · have key : ∃ b, x = .bl b ∧ (b = false → acc' = [] ∧ st = false) ∧ (b = true → acc' = [.bl true] ∧ st = true) := by
          cases x with
          | bl b => cases b <;> (cases he; exact ⟨_, rfl, by simp, by simp⟩)
          | _ => cases he
        obtain ⟨b, rfl, k1, k2⟩ := key
        obtain rfl := r.bl_of
        cases rv
        refine wpAny_bind (wpAny_holding (wpAny_truthy_bool ?_))
        refine wpAny_bind (wpAny_letGo ?_)
        cases b with
        | false =>
          obtain ⟨rfl, rfl⟩ := k1 rfl
          simp only [Bool.false_eq_true, if_false]
          obtain ⟨hn, g2⟩ := hk rfl s1 ρ H Mv.refl Sub.refl ⟨hC.1, hC.2.1, rfl⟩ ha1 rfl
          exact wpAny_pure ⟨plainId_quiet F.plain_any_loop _, ih (n - 1) (by omega) s1 g2⟩
        | true =>
          obtain ⟨rfl, rfl⟩ := k2 rfl
          simp only [if_true]
          obtain ⟨e1, e2⟩ := hst rfl
          subst e1; subst e2
          refine wpAny_bind (wpAny_rule (wpAny_pure ?_))
          exact fin I1 hC.1 hC.2.1 rfl
      · obtain ⟨ρ, H, I1, hC⟩ := hE
        refine wpAny_bind (wpAny_rule (wpAny_pure ?_))
        have e := hC.2.2
        subst e
        exact fin I1 hC.1 hC.2.1 rfl
  exact loop m0 s (start C cons m0 (Nat.le_refl _) s ρ1 H1 Mv.refl ⟨Ext.refl, w1, rfl⟩ ha rfl)
end
end Mi
set_option Elab.async false
set_option linter.all false
set_option maxRecDepth 100000
set_option maxHeartbeats 2000000
/-! Mk B: a generator expression of two clauses -/
namespace Mi
open PySem PySem.Spec PyProof.Rows L2 GenW

theorem eval_gen2 (elt target iter t2 i2 : Expr) (ifs ifs2 : List Expr) (scope : Scope) (pos : Pos) (env : Env) (hco : scope.isCoroutine = false) :
    eval (.GeneratorExp elt [⟨target, iter, ifs, 0⟩, ⟨t2, i2, ifs2, 0⟩] scope pos) env = (do
      let x ← eval iter env
      standAt iter.pos
      let x ← genFold iter env x
      let it ← holding [x] (pyIter x)
      enterFrame
      let cl ← closureFor scope env
      let code ← genexprCode env pos (env.qual ++ "<genexpr>") scope
      let bi ← builtinsFor env.globals env.builtins
      let cenv ← newFunctionEnv scope env.globals cl [(".0", it)] (env.qual ++ "<genexpr>.") none code none bi
      newGenerator (.compStart (.GeneratorExp elt [⟨target, iter, ifs, 0⟩, ⟨t2, i2, ifs2, 0⟩] scope pos) 0 it .none cenv) "<genexpr>" (env.qual ++ "<genexpr>")) := by
  rw [arm_eval_GeneratorExp]
  simp only [hco, Bool.false_eq_true, if_false]
  cases iter <;> rfl
section
variable {M : Model} {A : Around} {E : Value → Shared → Prop} {s : Shared}
theorem make2 {env : Env} {elt target iter t2 i2 : Expr} {ifs ifs2 : List Expr} {scope : Scope} {cl : List (Str × Addr)} {pos : Pos} {Q : Value → Shared → Prop}
    (hco : scope.isCoroutine = false) (hclos : closureFor scope env = pure cl) (hcell : ∀ y ∈ scope.names, y.2 ≠ .cell) (h0 : scope.names.lookup (".0" : Str) = some NameKind.local) (hkind : scope.kind = .function)
    (hroom : A.depth < recursionLimit)
    (h : wpAny M A (eval iter env) (fun xv s₁ => wpAny M A (pyIter xv) (fun it s₂ => s₂.heap.NoLimit ∧
      wpAny M A (genexprCode env pos (env.qual ++ "<genexpr>") scope) (fun code s₃ => wpAny M A (builtinsFor env.globals env.builtins) (fun bi s₄ =>
        ∀ h', h'.Ns s₄.heap.objs.size (fun y => if y = ".0" then some it else none) → Heap.SameBut s₄.heap.objs.size (s₄.heap.push { cls := .type "frame", data := .dict #[] }) h' →
          Q (.ref h'.objs.size) { s₄ with
            gens := s₄.gens.push (.fresh (.compStart (.GeneratorExp elt [⟨target, iter, ifs, 0⟩, ⟨t2, i2, ifs2, 0⟩] scope pos) 0 it .none (genEnv scope cl s₄.heap.objs.size code bi env))),
            toks := s₄.toks + 1 + 1 + 1,
            heap := h'.push { cls := .type "generator", data := .fields #[.int s₄.gens.size 0, .str "<genexpr>" (s₄.toks + 1), .str (env.qual ++ "<genexpr>") (s₄.toks + 1 + 1)] } }) E s₃) E s₂) E s₁) E s)
    (hs : ∀ x, genFold iter env x = pure x) :
    wpAny M A (eval (.GeneratorExp elt [⟨target, iter, ifs, 0⟩, ⟨t2, i2, ifs2, 0⟩] scope pos) env) Q E s := by
  rw [eval_gen2 _ _ _ _ _ _ _ _ _ _ hco, hclos]
  refine wpAny_bind (wpAny_mono h (fun xv s₁ h₁ => ?_) fun _ _ e => e)
  refine wpAny_bind (wpAny_standAt (wpAny_bind (wpAny_of_eq (hs xv) ?_)))
  refine wpAny_bind (wpAny_holding (wpAny_mono h₁ (fun it s₂ h₂ => ?_) fun _ _ e => e))
  refine wpAny_bind (wpAny_enterFrame h₂.1 hroom (wpAny_bind (wpAny_pure ?_)))
  refine wpAny_bind (wpAny_mono h₂.2 (fun code s₃ h₃ => wpAny_bind (wpAny_mono h₃ (fun bi s₄ h₄ => ?_) fun _ _ e => e)) fun _ _ e => e)
  have hb : ∀ y ∈ ([((".0" : Str), it)] : List (Str × Value)), scope.names.lookup y.1 = some NameKind.local := fun y hy => by
    rw [List.mem_singleton.mp hy]; exact h0
  refine wpAny_bind (wpAny_newFunctionEnv hcell hb (fun h' hn' hs' => ?_) hkind)
  have e : (fun y : Str => ([((".0" : Str), it)] : List (Str × Value)).reverse.lookup y) = fun y : Str => if y = (".0" : Str) then some it else none := by
    funext y
    by_cases hy : y = ".0"
    · subst hy; simp
    · have : (y == (".0" : Str)) = false := by simpa using hy
      simp [List.lookup, this, hy]
  rw [e] at hn'
  simp only [newGenerator, newFields]
  exact wpAny_bind (wpAny_newGen (wpAny_bind (wpAny_mkText (wpAny_bind (wpAny_mkText (wpAny_newObj_type (h₄ h' hn' hs') (by size_fits)))))))
end

abbrev genE (elt tg iter tg2 iter2 : Expr) (ifs2 : List Expr) (scope : Scope) (pos : Pos) : Expr := .GeneratorExp elt [⟨tg, iter, [], 0⟩, ⟨tg2, iter2, ifs2, 0⟩] scope pos
theorem turn0 (elt tg iter tg2 iter2 : Expr) (ifs2 : List Expr) (scope : Scope) (pos : Pos) (it : Value) (env : Env) : compTurn (genE elt tg iter tg2 iter2 ifs2 scope pos) 0 it .none env = (do
      standAt iter.pos
      match ← pyNext it with
      | none => pure (.done .next)
      | some v =>
        letOwnedTupleGo tg it v
        assign tg env v
        let x ← eval iter2 env
        standAt iter2.pos
        let x ← foldedSetIterable iter2 env x
        let _ ← runOwn (.compStart (genE elt tg iter tg2 iter2 ifs2 scope pos) 1 (← holding [x] (pyIter x)) .none env) env
        again (.compLoop (genE elt tg iter tg2 iter2 ifs2 scope pos) 0 it .none env)) := by rfl
theorem turn1 (elt tg iter tg2 iter2 : Expr) (ifs2 : List Expr) (scope : Scope) (pos : Pos) (it : Value) (env : Env) : compTurn (genE elt tg iter tg2 iter2 ifs2 scope pos) 1 it .none env = (do
      standAt iter2.pos
      match ← pyNext it with
      | none => pure (.done .next)
      | some v =>
        letOwnedTupleGo tg2 it v
        assign tg2 env v
        let mut ok := true
        for c in ifs2 do
          if ok then ok ← isTrue c env (eval c env)
        if ok then
          (do let v ← eval elt env; standAt elt.pos; let _ ← yieldOut env v)
        again (.compLoop (genE elt tg iter tg2 iter2 ifs2 scope pos) 1 it .none env)) := by rfl
section
variable {A : Around} {elt tg iter tg2 iter2 : Expr} {ifs2 : List Expr} {scope : Scope} {pos : Pos} {it it0 acc acc0 : Value} {env : Env} {k : Result → Sem PySem.Fin} {l kp : List Value} {p : Pos}
theorem over1 : A.over (.compLoop (genE elt tg iter tg2 iter2 ifs2 scope pos) 1 it acc env) [.ret k none false l (.compLoop (genE elt tg iter tg2 iter2 ifs2 scope pos) 0 it0 acc0 env) p kp] = A.deeper env := by
  first
    | rfl
    | (obtain ⟨hd, d, fr, gs, u⟩ := A; simp [Around.over, Around.deeper, marksOver, frameCount, unitsOf, envsOf, guardsOf, pushEnvs, pushGuards, Code.envs, Code.env?, Code.isFrame, Code.guards, Code.isGuard, Code.weight, Code.frames, Code.isCreation, Code.isCaller, Code.cUnits, Frame.where_])
theorem over1S : A.over (.compStart (genE elt tg iter tg2 iter2 ifs2 scope pos) 1 it acc env) [.ret k none false l (.compLoop (genE elt tg iter tg2 iter2 ifs2 scope pos) 0 it0 acc0 env) p kp] = A.deeper env := by
  first
    | rfl
    | (obtain ⟨hd, d, fr, gs, u⟩ := A; simp [Around.over, Around.deeper, marksOver, frameCount, unitsOf, envsOf, guardsOf, pushEnvs, pushGuards, Code.envs, Code.env?, Code.isFrame, Code.guards, Code.isGuard, Code.weight, Code.frames, Code.isCreation, Code.isCaller, Code.cUnits, Frame.where_])
end
section
variable {P : Pg} {cl : Cl}
def genF2 (P : Pg) (cl : Cl) (k : Gc) (t it2 t2 c e : E) (σb : Env1) : Step (List PV) := fun x acc h => match bindP t x σb with
  | some σ0 => match evI P cl it2 σ0 h with
    | some (i2, h1) => walk (genF P cl k t2 c e (wipeP σ0 (tgVars t2))) i2 acc h1
    | none => none
  | none => none
theorem genF2_inv {k : Gc} {t it2 t2 c e : E} {σb : Env1} {x : PV} {acc : List PV} {h : AH} {r : List PV × Bool} {h' : AH} (q : genF2 P cl k t it2 t2 c e σb x acc h = some (r, h')) :
    ∃ σ0 i2 h1 m2, bindP t x σb = some σ0 ∧ evI P cl it2 σ0 h = some (i2, h1) ∧ Runs (genF P cl k t2 c e (wipeP σ0 (tgVars t2))) i2 m2 0 acc h1 r h' := by
  unfold genF2 at q
  split at q
  · split at q
    · obtain ⟨m2, w⟩ := walk_runs q
      exact ⟨_, _, _, m2, ‹_›, ‹_›, w⟩
    · cases q
  · cases q
end

/-- the run of both loops, with a bound of what it hands out -/
inductive Tot (P : Pg) (cl : Cl) (k : Gc) (t it2 t2 c el : E) (σb : Env1) (i : It1) : Nat → Nat → List PV → AH → List PV × Bool → AH → Prop
  | stop {j : Nat} {acc : List PV} {h : AH} : itAt i h j = some none → Tot P cl k t it2 t2 c el σb i 0 j acc h (acc, false) h
  | out {j m2 : Nat} {x : PV} {acc acc' : List PV} {h h1 h' : AH} {σ0 : Env1} {i2 : It1} : itAt i h j = some (some x) → bindP t x σb = some σ0 → evI P cl it2 σ0 h = some (i2, h1) → Runs (genF P cl k t2 c el (wipeP σ0 (tgVars t2))) i2 m2 0 acc h1 (acc', true) h' →
      Tot P cl k t it2 t2 c el σb i (m2 + 0) j acc h (acc', true) h'
  | next {N j m2 : Nat} {x : PV} {acc acc' : List PV} {h h1 h' hF : AH} {σ0 : Env1} {i2 : It1} {r : List PV × Bool} : itAt i h j = some (some x) → bindP t x σb = some σ0 → evI P cl it2 σ0 h = some (i2, h1) → Runs (genF P cl k t2 c el (wipeP σ0 (tgVars t2))) i2 m2 0 acc h1 (acc', false) h' →
      Tot P cl k t it2 t2 c el σb i N (j + 1) acc' h' r hF → Tot P cl k t it2 t2 c el σb i (m2 + N) j acc h r hF
theorem tot_of {P : Pg} {cl : Cl} {k : Gc} {t it2 t2 c el : E} {σb : Env1} {i : It1} : ∀ {m j : Nat} {acc : List PV} {h : AH} {r : List PV × Bool} {hF : AH}, Runs (genF2 P cl k t it2 t2 c el σb) i m j acc h r hF → ∃ N, Tot P cl k t it2 t2 c el σb i N j acc h r hF := by
  intro m j acc h r hF rr
  induction rr with
  | stop q => exact ⟨0, .stop q⟩
  | out q ef =>
    obtain ⟨σ0, i2, h1, m2, e1, e2, e3⟩ := genF2_inv ef
    exact ⟨_, .out q e1 e2 e3⟩
  | next q ef _ ih =>
    obtain ⟨σ0, i2, h1, m2, e1, e2, e3⟩ := genF2_inv ef
    obtain ⟨N, hN⟩ := ih
    exact ⟨_, .next q e1 e2 e3 hN⟩
theorem seg_runOwn {M : Model} {A : Around} {R : GenEnd} {Y : Protocol} {n : Nat} {s₀ s : Shared} {c c' : Code} {env : Env} {K0 : Flow → Sem PySem.Fin} {Jx : Value → Sem PySem.Fin}
    (h : ∀ p kk, (∀ f, kk (.ok f) = (K0 f).wrap .pure Jx id id) → Seg M A R Y n s₀ c' (M.den c') [.ret kk none false [] c p []] s) : Seg M A R Y n s₀ c ((runOwn c' env >>= K0).wrap .pure Jx id id) [] s := by
  rw [Sem.bind_eq_wrap', Sem.wrap_wrap]
  unfold runOwn run
  rw [Sem.onRaise_eq_wrap, Sem.wrap_wrap]
  exact seg_call fun p => h p _ fun f => rfl
section
variable {X : Cx} {G : Gs} {cd : Option (Addr × Addr)} {P : Pg} {cl : Cl}
/-- the loop of the first clause of two -/
theorem seg_outer {Xg : Cx} {k : Gc} {C : List PV → AH → List Addr → Hp → Prop} {accF : List PV} {hF : AH} {z : Bool} {a : Addr} {go : Obj} {pins : List (Addr × Obj)} {σ : L2.St} {ρ0 ρi : List Addr} {H0 Hi : Hp} {A : Around} {R : GenEnd} {it : Addr} {fp : List Addr} {tn : Nat → Heap → Prop} {J : It}
    {elt tg iter tg2 iter2 : Expr} {ifs2 : List Expr} {scope : Scope} {pos : Pos} {t it2 t2 c el : E} {σb : Env1} {τ : L2.St} {i : It1} {wk : Bool} {vs : List Nat}
    (cons : Cons G ρ0 H0 C) (hcalm : Xg.calm = true) (hback : ∀ {σ' H' s'}, Inv Xg [(a, go)] σ' H' s' → Inv X pins σ H' s')
    (hA : A.deeper Xg.env = Xg.A) (hxe : Xg.xe = fun _ _ => False) (hco : Xg.env.scope.isCoroutine = false)
    (T : Turn Xg.prog Xg.w Xg.K tg J fp it tn) (hg : PG Xg tg (rdG G cd t)) (hi2 : PI Xg tg2 iter2 (RI G cd P cl it2)) (hg2 : PG Xg tg2 (rdG G cd t2)) (ht : PTs Xg ifs2 (RT G cd P cl c)) (he : PE Xg elt (RE G cd P cl el)) (hs2 : ∀ x, foldedSetIterable iter2 Xg.env x = pure x)
    (hfp : ∀ {σ' H' s'}, Inv Xg [(a, go)] σ' H' s' → (∀ b ∈ fp, H' b = none) → ∀ b ∈ fp, FpOk Xg [(a, go)] H' b)
    (hwk : wk = true → t.isTup = true) (hwk2 : it2.weak = true → t2.isTup = true) (hv : ∀ i ∈ tgVars t, i ∈ vs) (hv2 : ∀ i ∈ tgVars t2, i ∈ vs) (hτ : wipe τ vs = τ) (itr : ItR wk G ρi Hi i J) (sr0 : SR G cd ρi Hi σb τ) (hsi : ∀ {acc h ρ H}, C acc h ρ H → Sub ρi ρ Hi H)
    (hend : ∀ (n : Nat) (s₀ s : Shared) (ρ : List Addr) (H : Hp), Inv Xg [(a, go)] τ H s → C accF hF ρ H → z = false → Seg (model Xg.prog Xg.w) A R (gY X pins σ G k C accF hF a go) n s₀ (.compLoop (genE elt tg iter tg2 iter2 ifs2 scope pos) 0 (.ref it) .none Xg.env) (.pure (.done .next)) [] s) :
    ∀ {N j : Nat} {acc : List PV} {h : AH}, Tot P cl k t it2 t2 c el σb i N j acc h (accF, z) hF → ∀ (n : Nat), N ≤ n → ∀ (s₀ s : Shared) (ρ : List Addr) (H : Hp),
      Inv Xg [(a, go)] τ H s → tn j s.heap → (∀ b ∈ fp, H b = none) → C acc h ρ H →
      Seg (model Xg.prog Xg.w) A R (gY X pins σ G k C accF hF a go) n s₀ (.compLoop (genE elt tg iter tg2 iter2 ifs2 scope pos) 0 (.ref it) .none Xg.env) ((model Xg.prog Xg.w).den (.compLoop (genE elt tg iter tg2 iter2 ifs2 scope pos) 0 (.ref it) .none Xg.env)) [] s := by
  have hden : (model Xg.prog Xg.w).den (.compLoop (genE elt tg iter tg2 iter2 ifs2 scope pos) 0 (.ref it) .none Xg.env) = (compTurn (genE elt tg iter tg2 iter2 ifs2 scope pos) 0 (.ref it) .none Xg.env).wrap .pure (fun e => (leaving Xg.env e).bind fun _ => .raise e) id id := by
    show (compTurn _ _ _ _ _).onRaise (leaving Xg.env) = _
    rw [Sem.onRaise_eq_wrap]
  have hov : A.over (.compLoop (genE elt tg iter tg2 iter2 ifs2 scope pos) 0 (.ref it) .none Xg.env) [] = Xg.A := by rw [over_gen, hA]
  have no : ∀ {x : Value} {s' : Shared} {Q : Prop}, Xg.xe x s' → Q := fun {x s' Q} hx => by rw [hxe] at hx; exact hx.elim
  have stop : ∀ {j : Nat} {acc : List PV} {h : AH}, itAt i h j = some none → accF = acc → hF = h → z = false → ∀ (n : Nat) (s₀ s : Shared) (ρ : List Addr) (H : Hp), Inv Xg [(a, go)] τ H s → tn j s.heap → (∀ b ∈ fp, H b = none) → C acc h ρ H →
      Seg (model Xg.prog Xg.w) A R (gY X pins σ G k C accF hF a go) n s₀ (.compLoop (genE elt tg iter tg2 iter2 ifs2 scope pos) 0 (.ref it) .none Xg.env) ((model Xg.prog Xg.w).den (.compLoop (genE elt tg iter tg2 iter2 ifs2 scope pos) 0 (.ref it) .none Xg.env)) [] s := by
    intro j acc h q e1 e2 e3 n s₀ s ρ H I st nf hC
    subst e1; subst e2
    rw [hden, turn0]
    refine seg_bind_wrap (wpAny_standAt ?_)
    refine seg_bind_wrap ?_
    rw [hov]
    refine wpAny_mono (T.done Xg rfl rfl rfl hcalm j _ s τ H _ I (hfp I nf) st (itr.stop ρ H _ j (hsi hC) (cons.wf hC) q)) (fun r s1 hr => ?_) fun _ _ x => x
    obtain ⟨rfl, I1⟩ := hr
    exact hend n s₀ s1 ρ H I1 hC e3
  have step : ∀ {x : PV} {j m2 N : Nat} {acc acc' : List PV} {zz : Bool} {h h1 h' : AH} {σ0 : Env1} {i2 : It1}, itAt i h j = some (some x) → bindP t x σb = some σ0 → evI P cl it2 σ0 h = some (i2, h1) → Runs (genF P cl k t2 c el (wipeP σ0 (tgVars t2))) i2 m2 0 acc h1 (acc', zz) h' → (zz = true → acc' = accF ∧ h' = hF) →
      (zz = false → ∀ (n : Nat), N ≤ n → ∀ (s₀ s : Shared) (ρ : List Addr) (H : Hp), Inv Xg [(a, go)] τ H s → tn (j + 1) s.heap → (∀ b ∈ fp, H b = none) → C acc' h' ρ H →
        Seg (model Xg.prog Xg.w) A R (gY X pins σ G k C accF hF a go) n s₀ (.compLoop (genE elt tg iter tg2 iter2 ifs2 scope pos) 0 (.ref it) .none Xg.env) ((model Xg.prog Xg.w).den (.compLoop (genE elt tg iter tg2 iter2 ifs2 scope pos) 0 (.ref it) .none Xg.env)) [] s) →
      ∀ (n : Nat), m2 + N ≤ n → ∀ (s₀ s : Shared) (ρ : List Addr) (H : Hp), Inv Xg [(a, go)] τ H s → tn j s.heap → (∀ b ∈ fp, H b = none) → C acc h ρ H →
        Seg (model Xg.prog Xg.w) A R (gY X pins σ G k C accF hF a go) n s₀ (.compLoop (genE elt tg iter tg2 iter2 ifs2 scope pos) 0 (.ref it) .none Xg.env) ((model Xg.prog Xg.w).den (.compLoop (genE elt tg iter tg2 iter2 ifs2 scope pos) 0 (.ref it) .none Xg.env)) [] s := by
    intro x j m2 N acc acc' zz h h1 h' σ0 i2 q e1 e2 rr2 hzz cont n hn s₀ s ρ H I st nf hC
    rw [hden, turn0]
    refine seg_bind_wrap (wpAny_standAt ?_)
    refine seg_bind_wrap ?_
    rw [hov]
    refine wpAny_mono (T.item Xg rfl rfl rfl hcalm j _ s τ H _ I (hfp I nf) st (itr.go ρ H _ j x (hsi hC) (cons.wf hC) q)) (fun r s1 hr => ?_) fun _ _ x => x
    obtain ⟨u, rfl, h5⟩ := hr
    refine seg_bind_wrap ?_
    rw [hov]
    refine wpAny_mono h5 (fun _ s2 hs2 => ?_) fun _ _ x => x
    obtain ⟨v, H2, I2, r2, y2, st2, nf2⟩ := hs2
    obtain ⟨x3, w3, r3⟩ := itr.yld ρ H _ j x v H2 (hsi hC) (cons.wf hC) q y2
    have C2 := cons.go hC x3 w3
    have I2' := I2.pinned (hfp I2 nf2) (T.obj _ _ st2)
    refine seg_bind_wrap ?_
    rw [hov]
    refine wpAny_mono (hg.run _ s2 τ H2 v u (fun σ' H' => H' = H2 ∧ SR G cd ρ H2 σ0 σ' ∧ wipe σ' vs = τ) I2' r2 ⟨ρ, σb, h, x, σ0, sr0.sub (hsi C2), w3, wk_rep hwk r3, e1, fun σ' s' sm => ⟨rfl, s', by rw [sm vs hv, hτ]⟩⟩) (fun _ s3 hs3 => ?_) fun _ _ x => no x
    obtain ⟨σ3, H3, I3, hH3, sr3, wp3⟩ := hs3
    rw [hH3] at I3
    refine seg_bind_wrap ?_
    rw [hov]
    refine wpAny_mono (hi2.run _ s3 σ3 H2 (fun J2 H4 => ∃ ρ4, Ext ρ ρ4 H2 H4 ∧ Wf G ρ4 h1 H4 ∧ ItR it2.weak G ρ4 H4 i2 J2) I3 ⟨ρ, σ0, h, i2, h1, sr3, w3, e2, fun J' H' ρ' x w r => ⟨ρ', x, w, r⟩⟩) (fun xv s4 hx => ?_) fun _ _ x => no x
    refine seg_bind_wrap (wpAny_standAt ?_)
    refine seg_bind_wrap (wpAny_of_eq (hs2 xv) ?_)
    refine seg_bind_wrap ?_
    rw [hov]
    refine wpAny_holding (wpAny_mono hx (fun itv s5 hs5 => ?_) fun _ _ x => no x)
    obtain ⟨ia2, fp2, tn2, J2, H4, rfl, I5, T2, st5, f5, ρ4, x4, w4, itr2⟩ := hs5
    have C4 := cons.go C2 x4 w4
    refine seg_runOwn fun p kk hkk => ?_
    have weak : ∀ {H' : Hp} {s' : Shared}, Inv Xg ((a, go) :: pinsAt fp s2.heap) (wipe σ3 (tgVars t2)) H' s' → Inv Xg [(a, go)] τ H' s' ∧ tn (j + 1) s'.heap ∧ ∀ b ∈ fp, H' b = none := fun {H' s'} I' => by
      have I' : Inv Xg ([(a, go)] ++ pinsAt fp s2.heap) (wipe σ3 (tgVars t2)) H' s' := I'
      have pin' : ∀ b ∈ fp, ∀ o, s2.heap.get? b = some o → s'.heap.get? b = some o ∧ H' b = none := fun b hb o e =>
        let z := I'.pin (b, o) (List.mem_append_right _ (List.mem_append_right _ (mem_pinsAt hb e)))
        ⟨z.1, z.2.1⟩
      have hl : τ.length = (wipe σ3 (tgVars t2)).length := by rw [← wp3, wipe_length, wipe_length]
      refine ⟨I'.unpinned.weak hl fun j v e => ?_, T.keep _ _ _ st2 fun b hb o e => (pin' b hb o e).1, fun b hb => ?_⟩
      · rw [← wp3] at e
        obtain ⟨e1, e2⟩ := wipe_some e
        rw [wipe_out fun hm => e2 (hv2 _ hm)]
        exact e1
      · obtain ⟨o, e, _⟩ := T.obj _ _ st2 b hb
        exact (pin' b hb o e).2
    have I5w : Inv Xg ((a, go) :: pinsAt fp s2.heap) (wipe σ3 (tgVars t2)) H4 s5 := Inv.weak I5 (by rw [wipe_length]) fun j v e => (wipe_some e).1
    have loop : ∀ s₀, Seg (model Xg.prog Xg.w) A R (gY X pins σ G k C accF hF a go) n s₀ (.compLoop (genE elt tg iter tg2 iter2 ifs2 scope pos) 1 (.ref ia2) .none Xg.env) ((model Xg.prog Xg.w).den (.compLoop (genE elt tg iter tg2 iter2 ifs2 scope pos) 1 (.ref ia2) .none Xg.env))
        [.ret kk none false [] (.compLoop (genE elt tg iter tg2 iter2 ifs2 scope pos) 0 (.ref it) .none Xg.env) p []] s5 := fun s₀ => by
      refine seg_last (Xg := Xg) (X := X) (ip := pinsAt fp s2.heap) (σ := σ) (vs := tgVars t2) (pos0 := iter2.pos) (pos1 := elt.pos) (K := .pure) (Jx := fun e => ((fun x => do noteFrame x Xg.env; theTreesLotGoes x) e).bind fun _ => .raise e) (q0 := N) (wk := it2.weak) (ρi := ρ4) (Hi := H4) (accE := acc') (hE := h') (z := zz) (σb := wipeP σ0 (tgVars t2)) (i := i2)
        cons hcalm (fun I' => hback (Inv.unpinned (pins := [(a, go)]) I')) ?_ rfl rfl hxe ?_ (fun _ => rfl) (turn1 ..) rfl hco T2 hg2 ht he (fun I' hn b hb => ⟨hn b hb, (f5 b hb).2⟩) hwk2 (fun i hi => hi) (wipe_idem _ _ σ3 fun i hi => hi) itr2 ((sr3.mono x4).wipe _) hzz ?_ m2 rr2 n hn s₀ s5 ρ4 H4 I5w st5 (fun b hb => (f5 b hb).1) C4 Sub.refl
      · rw [over1, hA]
      · show (compTurn _ _ _ _ _).onRaise (fun x => do noteFrame x Xg.env; theTreesLotGoes x) = _
        rw [Sem.onRaise_eq_wrap]
      · intro n hn s₀ s ρ H I' _ hC' hz _
        refine seg_leaf (.ok .next) ?_
        rw [hkk]
        obtain ⟨I6, st6, nf6⟩ := weak I'
        exact seg_again rfl (cont hz n hn s₀ s ρ H I6 st6 nf6 hC')
    show Seg _ _ _ _ n s₀ _ ((compStart (genE elt tg iter tg2 iter2 ifs2 scope pos) 1 (.ref ia2) .none Xg.env).onRaise _) _ s5
    unfold compStart
    rw [Sem.onRaise_eq_wrap]
    show Seg _ _ _ _ n s₀ _ ((ask >>= _).wrap _ _ _ _) _ s5
    refine seg_bind_wrap (wpAny_askSetting ?_)
    split
    · exact seg_again rfl (loop _)
    · first
        | exact seg_bind_wrap (wpAny_rule (seg_bind_wrap (wpAny_standAt (seg_bind_wrap (T2.self _ 0 s5 _ _ st5 (seg_again rfl (loop _)))))))
        | (refine seg_bind_wrap (wpAny_rule ?_); show Seg _ _ _ _ n s₀ _ ((standAt iter2.pos >>= _).wrap _ _ _ _) _ s5; exact seg_bind_wrap (wpAny_standAt (seg_bind_wrap (T2.self _ 0 s5 _ _ st5 (seg_again rfl (loop _))))))
  intro N j acc h tt
  generalize hr0 : (accF, z) = r0 at tt
  induction tt with
  | stop q => cases hr0; exact fun n _ s₀ s ρ H I st nf hC => stop q rfl rfl rfl n s₀ s ρ H I st nf hC
  | out q e1 e2 e3 => cases hr0; exact fun n hn s₀ s ρ H I st nf hC => step q e1 e2 e3 (fun _ => ⟨rfl, rfl⟩) (fun z => by cases z) n hn s₀ s ρ H I st nf hC
  | next q e1 e2 e3 _ ih => exact fun n hn s₀ s ρ H I st nf hC => step q e1 e2 e3 (fun z => by cases z) (fun _ => ih hend @stop @step hr0) n hn s₀ s ρ H I st nf hC
end
end Mi
set_option Elab.async false
set_option linter.all false
set_option maxRecDepth 100000
set_option maxHeartbeats 2000000
/-! Mk C: a generator expression of two clauses, made -/
namespace Mi
open PySem PySem.Spec PyProof.Rows L2 GenW
section
variable {X : Cx} {G : Gs} {cd : Option (Addr × Addr)} {P : Pg} {cl : Cl}
theorem gen_made2 {k : Gc} {t it t2 it2 c e : E} {elt tg iter tg2 iter2 : Expr} {ifs2 : List Expr} {scope : Scope} {own : List (Str × Nat)} {gpos : Pos} {pins : List (Addr × Obj)} {s : Shared} {σ : L2.St} {H : Hp} {ρ : List Addr} {σp : Env1} {h h1 hF : AH} {i : It1} {accF : List PV} {z : Bool} {r : Nat}
    (hr : Room (r + 1) X.A) (hc : X.calm = true) (hN : X.N.Nodup) (hco : CodeOk X G cd) (hbt : ∃ P0, X.base.BuiltinsAt X.mg P0) (hsco : scope.isCoroutine = false) (ok : BlkOk X.N X.env.scope scope own) (nc : ∀ y ∈ scope.names, y.2 ≠ .cell) (h0 : scope.names.lookup (".0" : Str) = some NameKind.local)
    (hi : PI X tg iter (RI G cd P cl it)) (hg : GenCx X scope fun Y cd' => PG Y tg (rdG G cd' t)) (hi2 : GenCx X scope fun Y cd' => PI Y tg2 iter2 (RI G cd' P cl it2)) (hg2 : GenCx X scope fun Y cd' => PG Y tg2 (rdG G cd' t2)) (ht : GenCx X scope fun Y cd' => PTs Y ifs2 (RT G cd' P cl c)) (he : GenCx X scope fun Y cd' => PE Y elt (RE G cd' P cl e)) (hs : ∀ x, genFold iter X.env x = pure x) (hs2 : ∀ env x, foldedSetIterable iter2 env x = pure x)
    (hwk : it.weak = true → t.isTup = true) (hwk2 : it2.weak = true → t2.isTup = true) (hv : ∀ i ∈ tgVars t, i ∈ own.map (·.2)) (hv2 : ∀ i ∈ tgVars t2, i ∈ own.map (·.2)) (I : Inv X pins σ H s) (sr : SR G cd ρ H σp σ) (wf : Wf G ρ h H) (ei : evI P cl it σp h = some (i, h1)) (ew : walk (genF2 P cl k t it2 t2 c e (wipeP σp (own.map (·.2)))) i [] h1 = some ((accF, z), hF)) :
    wpAny (model X.prog X.w) X.A (eval (.GeneratorExp elt [⟨tg, iter, [], 0⟩, ⟨tg2, iter2, ifs2, 0⟩] scope gpos) X.env) (fun v s' => ∃ H1 ρ1, Ext ρ ρ1 H H1 ∧ GMd X pins σ G k ρ1 H1 h1 accF z hF v s') X.xe s := by
  obtain ⟨m1, run1⟩ := walk_runs ew
  obtain ⟨m0, run⟩ := tot_of run1
  have hfree : ∀ y ∈ scope.names, y.2 = .free → ∃ c, X.env.cells.lookup y.1 = some c := fun y hy e => by
    rcases ok.free y hy e with k | k
    · exact I.ok.has _ (.inl k)
    · exact I.ok.has _ (.inr k)
  refine make2 hsco (closure_ok hfree) nc h0 ok.kind hr.depth ?_ hs
  refine thn (hi.run pins s σ H (fun J H1 => ∃ ρ1, Ext ρ ρ1 H H1 ∧ Wf G ρ1 h1 H1 ∧ ItR it.weak G ρ1 H1 i J) I ⟨ρ, σp, h, i, h1, sr, wf, ei, fun J H' ρ' x w it => ⟨ρ', x, w, it⟩⟩) fun xv s1 hx => thn hx fun itv s2 h2 => ?_
  obtain ⟨ia, fp, tn, J, H2, rfl, I2, T, st2, f2, ρ2, x2, w2, itr⟩ := h2
  refine ⟨I2.nolimit, ?_⟩
  obtain ⟨c0, P0, ec, hd0, hT0⟩ := hco.get (ρ0 := ρ) (H0 := H) I2 w2 (sr.mono x2)
  have fT : ∀ b ∈ fp, b ≠ P0 := fun b hb z => by
    obtain ⟨ps, hP, _⟩ := hT0
    have := (f2 b hb).1
    rw [z, hP] at this; cases this
  refine gen_code I2 w2 ec hd0 hT0 fun c' P' s3 H3 I3 x3 w3 hcc k3 n3 sz3 => ?_
  obtain ⟨_, bm, ob, e1, e2, _, _, e5, e6, e7, e8⟩ := hbt
  refine wpAny_builtinsFor (m := X.mg) (by rw [I3.ok.glob]; exact I3.mod.glob.keeps I3.bk) e1 e2 (I3.bk _ _ e5) e6 e7 e8 ?_
  intro h' hn' sb
  generalize hcv : genEnv scope (cloFrom X.env.cells scope.names []) s3.heap.objs.size (.ref c') builtinsNs X.env = cenv
  have cL : cenv.locals = s3.heap.objs.size := by rw [← hcv]; rfl
  have cC : cenv.cells = cloFrom X.env.cells scope.names [] := by rw [← hcv]; rfl
  have cS : cenv.scope = scope := by rw [← hcv]; rfl
  have cG : cenv.globals = mainGlobals := by rw [← hcv]; exact I3.ok.glob
  have cB : cenv.builtins = builtinsNs := by rw [← hcv]; rfl
  have cF : cenv.frame = some cenv.locals := by rw [← hcv]; rfl
  have cD : cenv.code = .ref c' := by rw [← hcv]; rfl
  have kp : ∀ b o, s3.heap.get? b = some o → h'.get? b = some o := fun b o e => (sb.2 b (Nat.ne_of_lt (Heap.lt_size e))).trans (Heap.get?_push_of_some _ e)
  have hsz : s3.heap.objs.size < h'.objs.size := hn'.lt
  generalize hgo : ({ cls := .type "generator", data := .fields #[.int s3.gens.size 0, .str "<genexpr>" (s3.toks + 1), .str (X.env.qual ++ "<genexpr>") (s3.toks + 1 + 1)] } : Obj) = go
  have goG : ∀ hh : Heap, hh.get? h'.objs.size = some go → hh.IsGen h'.objs.size s3.gens.size := fun hh e => ⟨go, _, _, e, by rw [← hgo], by rw [← hgo], by rw [← hgo]⟩
  have goC : ∀ v, go.data ≠ .cell v := fun v q => by rw [← hgo] at q; cases q
  have goA : (h'.push go).get? h'.objs.size = some go := Heap.get?_push_size _ (by rw [← hgo]; rfl)
  have kp2 : ∀ b o, s3.heap.get? b = some o → (h'.push go).get? b = some o := fun b o e => Heap.get?_push_of_some _ (kp b o e)
  -- the iterator's objects
  have fpl : ∀ b ∈ fp, b < s2.heap.objs.size := fun b hb => by
    obtain ⟨o, e, _⟩ := T.obj _ _ st2 b hb
    exact Heap.lt_size e
  have f3 : ∀ b ∈ fp, FpOk X pins H3 b ∧ b < s3.heap.objs.size := fun b hb => ⟨⟨n3 b (f2 b hb).1 (fpl b hb), (f2 b hb).2⟩, Nat.lt_of_lt_of_le (fpl b hb) sz3⟩
  have st3 : tn 0 s3.heap := T.keep _ _ _ st2 fun b hb o e => k3 b o (fT b hb) e
  have hg4 : AllBare (s3.gens.push (.fresh (.compStart (.GeneratorExp elt [⟨tg, iter, [], 0⟩, ⟨tg2, iter2, ifs2, 0⟩] scope gpos) 0 (.ref ia) .none cenv))) := AllBare.push I3.bare rfl
  generalize hgs : s3.gens.push (.fresh (.compStart (.GeneratorExp elt [⟨tg, iter, [], 0⟩, ⟨tg2, iter2, ifs2, 0⟩] scope gpos) 0 (.ref ia) .none cenv)) = gs4 at hg4
  have IX : Inv X pins σ H3 { s3 with heap := h'.push go, gens := gs4, toks := s3.toks + 1 + 1 + 1 } := mv_gens (s := { s3 with heap := h'.push go, toks := s3.toks + 1 + 1 + 1 }) hg4 X pins σ (I3.kept kp2)
  have Ag : ((in5 X.A).deeper cenv).frames = some (cenv :: X.stack) := by
    show X.A.frames.map (cenv :: ·) = _
    rw [I3.ok.frames]; rfl
  have Ig : Inv (gCx X s3 H3 scope cenv fp ((in5 X.A).deeper cenv)) [] (wipe σ (own.map (·.2))) H3 { s3 with heap := h'.push go, gens := gs4, toks := s3.toks + 1 + 1 + 1 } :=
    gen_inv I3 ok nc hN f3 cL cC cS cG cB cF Ag (fun _ => hr.hd) (m0 := _) (hn'.push _) kp2 hg4
  have stat : ∀ {ip : List (Addr × Obj)} {σ' : L2.St} {H' : Hp} {s' : Shared}, (∀ p ∈ ip, p.1 = h'.objs.size) → Inv (gCx X s3 H3 scope cenv fp ((in5 X.A).deeper cenv)) ip σ' H' s' → (∀ b ∈ fp, H' b = none) → ∀ b ∈ fp, FpOk (gCx X s3 H3 scope cenv fp ((in5 X.A).deeper cenv)) ip H' b := fun {ip σ' H' s'} hip I' hn b hb =>
    ⟨hn b hb, (I'.ok.exf b hb).1, I'.ok.exfs b hb, .inl hb, fun x c e => (I'.ok.exf b hb).2 x c e, fun p hp z => by
      have hp : p ∈ ([] : List (Addr × Obj)) ++ ip := hp
      rw [List.nil_append] at hp
      have z2 := hip p hp
      rw [z] at z2
      have := (f3 b hb).2
      rw [z2] at this
      exact absurd (Nat.lt_trans this hsz) (Nat.lt_irrefl _)⟩
  have Ia : Inv (gCx X s3 H3 scope cenv fp ((in5 X.A).deeper cenv)) [(h'.objs.size, go)] (wipe σ (own.map (·.2))) H3 { s3 with heap := h'.push go, gens := gs4, toks := s3.toks + 1 + 1 + 1 } := by
    refine Ig.pins_of fun p hp => ?_
    rw [List.mem_singleton.mp hp]
    refine ⟨goA, I3.hok.fresh (Nat.le_of_lt hsz), ?_, fun z => ?_, goC⟩
    · show h'.objs.size ≠ cenv.locals
      rw [cL]; exact Nat.ne_of_gt hsz
    · have z : h'.objs.size ∈ frs X.stack := z
      rcases List.mem_cons.mp (I3.stkSub _ z) with z | z
      · have := I3.lt; rw [← z] at this; exact absurd (Nat.lt_trans this hsz) (Nat.lt_irrefl _)
      · exact I3.nofs (Nat.le_of_lt hsz) z
  have hback : ∀ {σ' : L2.St} {H' : Hp} {s' : Shared}, Inv (gCx X s3 H3 scope cenv fp ((in5 X.A).deeper cenv)) [(h'.objs.size, go)] σ' H' s' → Inv X pins σ H' s' := fun {σ' H' s'} I' =>
    I3.call' (ch := fp) I'.os I'.base I'.hok I'.bare fun b hb => ⟨(f3 b hb).1.2.2.2.1, (f3 b hb).1.2.1, (f3 b hb).1.2.2.2.2.1, (f3 b hb).1.2.2.2.2.2⟩

  refine ⟨H3, ρ2, x2.trans x3, h'.objs.size, s3.gens.size, go, m0, .compStart (.GeneratorExp elt [⟨tg, iter, [], 0⟩, ⟨tg2, iter2, ifs2, 0⟩] scope gpos) 0 (.ref ia) .none cenv, rfl, goA, goG, by rw [← hgs]; exact Array.getElem?_push_size .., IX, w3, fun C cons n hmn s'' ρ'' H'' mv hC => ?_⟩
  -- it begins
  have stb : ∀ b ∈ fp, ∃ o, ({ s3 with heap := h'.push go, gens := gs4, toks := s3.toks + 1 + 1 + 1 } : Shared).heap.get? b = some o ∧ ∀ v, o.data ≠ .cell v := T.obj 0 _ (T.keep _ _ _ st3 fun b hb o e => kp2 b o e)
  have st4 : tn 0 (h'.push go) := T.keep _ _ _ st3 fun b hb o e => kp2 b o e
  have Ip := mv _ _ _ (Ia.pinned (stat (fun p hp => by rw [List.mem_singleton.mp hp]) Ia fun b hb => (f3 b hb).1.1) stb)
  have I5 := Ip.unpinned
  have st5 : tn 0 s''.heap := T.keep _ _ _ st4 fun b hb o e => (Ip.pin (b, o) (List.mem_append_right _ (List.mem_append_right _ (mem_pinsAt hb e)))).1
  have nf5 : ∀ b ∈ fp, H'' b = none := fun b hb => by
    obtain ⟨o, e, _⟩ := T.obj 0 _ st4 b hb
    exact (Ip.pin (b, o) (List.mem_append_right _ (List.mem_append_right _ (mem_pinsAt hb e)))).2.1
  have srg : SR G (some (c', P')) ρ2 H3 (wipeP σp (own.map (·.2))) (wipe σ (own.map (·.2))) := by
    have a := ((sr.mono x2).mono x3).wipe (own.map (·.2))
    exact ⟨a.len, fun p hp => by cases hp; exact hcc, a.at_⟩
  have rm : ∀ k, Room (k + 1) X.A → Room k ((in5 X.A).deeper cenv) := fun k r => room5 r
  have loop : ∀ s₀, Seg (model X.prog X.w) (in5 X.A) (gR X pins σ C accF z hF) (gY X pins σ G k C accF hF h'.objs.size go) n s₀ (.compLoop (.GeneratorExp elt [⟨tg, iter, [], 0⟩, ⟨tg2, iter2, ifs2, 0⟩] scope gpos) 0 (.ref ia) .none cenv)
      ((model X.prog X.w).den (.compLoop (.GeneratorExp elt [⟨tg, iter, [], 0⟩, ⟨tg2, iter2, ifs2, 0⟩] scope gpos) 0 (.ref ia) .none cenv)) [] s'' := fun s₀ => by
    refine seg_outer (Xg := gCx X s3 H3 scope cenv fp ((in5 X.A).deeper cenv)) (X := X) (σ := σ) (vs := own.map (·.2)) (ρi := ρ2) (Hi := H3) cons hc hback rfl rfl ?_ T
      (hg s3 H3 cenv fp _ c' P' cS cD rm) (hi2 s3 H3 cenv fp _ c' P' cS cD rm) (hg2 s3 H3 cenv fp _ c' P' cS cD rm) (ht s3 H3 cenv fp _ c' P' cS cD rm) (he s3 H3 cenv fp _ c' P' cS cD rm) (fun x => hs2 _ x) (fun I' hn => stat (fun p hp => by rw [List.mem_singleton.mp hp]) I' hn) hwk hwk2 hv hv2 (wipe_idem _ _ σ fun i hi => hi) (itr.mono x3.sub) srg (fun hC => cons.sub hC) ?_ run n hmn s₀ s'' ρ'' H'' I5 st5 nf5 hC
    · show cenv.scope.isCoroutine = false
      rw [cS]; exact hsco
    · intro n s₀ s ρ H I hCf hz
      exact seg_end (.ok .next) ⟨rfl, hz, ρ, H, hback I, hCf⟩
  show Seg _ _ _ _ n s'' _ ((compStart (.GeneratorExp elt [⟨tg, iter, [], 0⟩, ⟨tg2, iter2, ifs2, 0⟩] scope gpos) 0 (.ref ia) .none cenv).onRaise (leaving cenv)) [] s''
  unfold compStart
  rw [Sem.onRaise_eq_wrap]
  show Seg _ _ _ _ n s'' _ ((ask >>= _).wrap _ _ _ _) [] s''
  refine seg_bind_wrap (wpAny_askSetting ?_)
  split
  · exact seg_again rfl (loop _)
  · first
      | exact seg_bind_wrap (wpAny_rule (seg_bind_wrap (wpAny_standAt (seg_bind_wrap (T.self _ 0 s'' _ _ st5 (seg_again rfl (loop _)))))))
      | (refine seg_bind_wrap (wpAny_rule ?_); show Seg _ _ _ _ n s'' _ ((standAt iter.pos >>= _).wrap _ _ _ _) [] s''; exact seg_bind_wrap (wpAny_standAt (seg_bind_wrap (T.self _ 0 s'' _ _ st5 (seg_again rfl (loop _))))))
end
end Mi
set_option Elab.async false
set_option linter.all false
set_option maxRecDepth 100000
set_option maxHeartbeats 2000000
/-! Mi Y: what collects a generator's items -/
namespace Mi
open PySem PySem.Spec PyProof.Rows L2 GenW

theorem mv_lst {H : Hp} {s : Shared} {S : Addr} {xs ys : List V} {its : List Value} {n : Nat} {h' : Heap} (hD : H S = some (.lst xs)) (hz : ys.length ≤ sizeLine) (rv : Vals ys its) (k : ∀ b u, b ≠ S → s.heap.get? b = some u → h'.get? b = some u) (hS : h'.get? S = some { cls := .type "list", data := .seq its.toArray n }) :
    Mv H (upd H S (.lst ys)) s { s with heap := h' } := fun X pins σ I => I.write (t' := s.toks) (by rw [hD]; trivial) (.inl rfl) k ⟨_, hS⟩ ⟨hz, its, n, rv, hS⟩
theorem mv_new {H : Hp} {s : Shared} {S : Addr} {n : Nat} {h' : Heap} (hp : s.heap.objs.size ≤ S) (k : ∀ b u, s.heap.get? b = some u → h'.get? b = some u) (hS : h'.get? S = some { cls := .type "list", data := .seq ([] : List Value).toArray n }) :
    Mv H (upd H S (.lst [])) s { s with heap := h' } := fun X pins σ I => I.laid (t' := s.toks) k hp ⟨Nat.zero_le _, [], n, .nil, hS⟩
section
variable {G : Gs}
theorem Acc.re {ρ1 ρ : List Addr} {H1 H : Hp} {D : Addr} {acc acc' : List PV} {h : AH} {us us' : List V} (a : Acc G ρ1 H1 D acc h ρ H) (hD : H1 D = none) (hu : H D = some (.lst us)) (r : Reps G.K ρ H acc' us') : Acc G ρ1 H1 D acc' h ρ (upd H D (.lst us')) :=
  ⟨a.ext.fresh hD, a.wf.out hu a.out, a.out, us', upd_same, r.sub (Sub.out hu)⟩
theorem Acc.cons {ρ1 : List Addr} {H1 : Hp} {D : Addr} : Cons G ρ1 H1 (fun acc h ρ H => Acc G ρ1 H1 D acc h ρ H) := ⟨fun a e w => a.go e w, fun a => a.wf, fun a => a.ext.sub⟩
end
section
variable {X : Cx} {G : Gs} {cd : Option (Addr × Addr)} {P : Pg} {cl : Cl}
def Gc.coll : Gc → Bool | .all => false | .any => false | _ => true
theorem eat_coll {k : Gc} (hk : k.coll = true) {acc acc' : List PV} {x : PV} {h : AH} {st : Bool} (e : eat k acc x h = some (acc', st)) : acc.length < SZ ∧ acc' = acc ++ [x] ∧ st = false := by
  cases k <;> first | exact absurd hk (by decide) | (obtain ⟨z, e⟩ := ite_some (show (if acc.length < SZ then some (acc ++ [x], false) else none) = _ from e); cases e; exact ⟨z, rfl, rfl⟩)
/-- the loop that fills a list -/
theorem ext_loop (hh : X.A.handled = none) (hroom : X.A.depth < recursionLimit) {k : Gc} (hk : k.coll = true) {pins : List (Addr × Obj)} {σ : L2.St} {ρ1 : List Addr} {H1 : Hp} {accF : List PV} {z : Bool} {hF : AH} {a : Addr} {gi : Nat} {go : Obj} {S : Addr} {res : Value} {R : Result → Shared → Prop} {j : Around}
    (hj : ∀ {α : Type} {t : Sem α} {Q : α → Shared → Prop} {E : Value → Shared → Prop} {s : Shared}, wpAny (model X.prog X.w) X.A.in1.in1.in1.in1 t Q E s → wpAny (model X.prog X.w) j.in1 t Q E s) (hS1 : H1 S = none)
    (hG : ∀ h : Heap, h.get? a = some go → h.IsGen a gi) (hSa : S ≠ a) (hR : ∀ s' ρ H, Inv X pins σ H s' → Acc G ρ1 H1 S accF hF ρ H → R (.ok (.ret res)) s') :
    ∀ (n : Nat) (s : Shared), GAt X pins σ G k (fun acc h ρ H => Acc G ρ1 H1 S acc h ρ H) accF z hF a gi go n s → codeAny (model X.prog X.w) j (.builtin "list.extend.loop" ⟨[.ref S, .ref a, res], []⟩) R s := by
  intro n
  induction n using Nat.strongRecOn with
  | ind n ih =>
    intro s g
    refine codeAny_builtin F.entry_extend_loop ?_
    rw [Around.under_plainId F.plain_extend_loop _]
    show wpAny _ j.in1 (pyNext (.ref a) >>= _) _ _ s
    refine wpAny_bind (hj (g_next4 hh hroom hG g (fun v s1 x u acc h ρ H acc' st ha1 I1 hC r rv he hst hk2 => ?_) fun s1 hz hE => ?_))
    · obtain ⟨hz, rfl, rfl⟩ := eat_coll hk he
      obtain ⟨us, hu, rs⟩ := hC.at_
      obtain ⟨hz2, its, c, rits, eS⟩ := I1.hok S _ hu
      have hlen := rits.length
      have hlt : us.length < sizeLine := by rw [← rs.length, ← SZ_eq]; exact hz
      show wpAny _ j.in1 (updateSeq S (·.push v) >>= _) _ _ _
      refine wpAny_bind ?_
      refine wpAny_updateSeq eS rfl (wpAny_pure ⟨plainId_quiet F.plain_extend_loop _, ?_⟩) (by rw [List.size_toArray]; omega) (by show (its.toArray.push v).size ≤ sizeLine + 1; rw [Array.size_push, List.size_toArray]; omega)
      have mv := mv_push (y := u) (v := v) hu hlt rv (by simpa using rits) eS
      obtain ⟨hn, g2⟩ := hk2 rfl _ ρ _ mv (Sub.out hu) (hC.put hS1 hu r) ((Heap.get?_update_other _ _ hSa).trans ha1) rfl
      exact ih (n - 1) (by omega) _ g2
    · obtain ⟨ρ, H, I1, hC⟩ := hE
      exact wpAny_pure (hR s1 ρ H I1 hC)
/-- collected into a list of Python's own -/
theorem g_collect (hh : X.A.handled = none) (hroom : X.A.depth < recursionLimit) {k : Gc} (hk : k.coll = true) {pins : List (Addr × Obj)} {σ : L2.St} {ρ1 : List Addr} {H1 : Hp} {h1 : AH} {accF : List PV} {z : Bool} {hF : AH} {a : Addr} {s : Shared} {j : Around} {Q : List Value → Shared → Prop} {E : Value → Shared → Prop}
    (hj : ∀ {α : Type} {t : Sem α} {Q : α → Shared → Prop} {E : Value → Shared → Prop} {s : Shared}, wpAny (model X.prog X.w) X.A.in1.in1.in1.in1 t Q E s → wpAny (model X.prog X.w) j.in1 t Q E s)
    (g : GMd X pins σ G k ρ1 H1 h1 accF z hF (.ref a) s) (hQ : ∀ s' ρ H vs us, Inv X pins σ H s' → Ext ρ1 ρ H1 H → Wf G ρ hF H → Reps G.K ρ H accF vs → Vals vs us → us.length ≤ sizeLine → Q us s') : wpAny (model X.prog X.w) j (collect (.ref a)) Q E s := by
  obtain ⟨a', gi, go, m0, ea, ha, hG, hgi, I, w1, start⟩ := g_first g
  cases ea
  have hal : a < s.heap.objs.size := Heap.lt_size ha
  have hSa : s.heap.objs.size ≠ a := Nat.ne_of_gt hal
  have hS1 : H1 s.heap.objs.size = none := I.hok.fresh (Nat.le_refl _)
  unfold collect
  refine wpAny_bind (wpAny_runValue (codeAny_builtin F.entry_proto_collect ?_))
  rw [Around.under_plainId F.plain_proto_collect _]
  show wpAny _ j.in1 (newList [] >>= fun l => again (.builtin "list.__iadd__" ⟨[l, .ref a], []⟩)) _ _ s
  refine wpAny_bind (wpAny_newObj_type ?_)
  refine wpAny_pure ⟨plainId_quiet F.plain_list_iadd _, codeAny_builtin F.entry_list_iadd ?_⟩
  rw [Around.under_plainId F.plain_list_iadd _]
  show wpAny _ j.in1 (Builtin.List.listExtendWith (.ref s.heap.objs.size) (.ref a) (.ref s.heap.objs.size)) _ _ _
  have hg1 : ∀ {h' : Heap}, (∀ b o, s.heap.get? b = some o → h'.get? b = some o) → h'.IsGen a gi := fun {h'} q => hG _ (q _ _ ha)
  have k1 : ∀ b o, s.heap.get? b = some o → (s.heap.push { cls := .type "list", data := .seq ([] : List Value).toArray }).get? b = some o := fun b o e => Heap.get?_push_of_some _ e
  unfold Builtin.List.listExtendWith
  refine wpAny_bind (wpAny_typeOf (Heap.IsGen.typeIs (s := { s with heap := _ }) (hg1 k1)) ?_)
  have h1' : Builtin.List.listSameRef (.ref s.heap.objs.size) (.ref a) = false := by simp [Builtin.List.listSameRef, hSa]
  have h2' : (Value.type "generator" == Value.type "list") = false := by decide
  have h3' : (Value.type "generator" == Value.type "tuple") = false := by decide
  simp only [h1', h2', h3', Bool.or_false, Bool.false_eq_true, if_false]
  refine wpAny_bind (wpAny_pyIter_gen (s := { s with heap := _ }) (hg1 k1) ?_)
  refine wpAny_bind (wpAny_holding ?_)
  unfold Builtin.List.listLengthHint
  refine wpAny_bind (wpAny_specialOf (Heap.IsGen.typeIs (s := { s with heap := _ }) (hg1 k1)) F.gen_no_len ?_)
  show wpAny _ j.in1 (specialOf (Value.ref a) (Str.ofString "__length_hint__") >>= _) _ _ _
  refine wpAny_bind (wpAny_specialOf (Heap.IsGen.typeIs (s := { s with heap := _ }) (hg1 k1)) F.gen_no_hint ?_)
  refine wpAny_pure ?_
  show wpAny _ j.in1 (rule "list.extend.makes-room" >>= fun _ => Builtin.List.listTouch (.ref s.heap.objs.size) >>= fun _ =>
    again (.builtin "list.extend.loop" ⟨[.ref s.heap.objs.size, .ref a, .ref s.heap.objs.size], []⟩)) _ _ _
  refine wpAny_bind (wpAny_rule ?_)
  have hS₁ : (s.heap.push { cls := .type "list", data := .seq ([] : List Value).toArray }).get? s.heap.objs.size = some { cls := .type "list", data := .seq ([] : List Value).toArray } := Heap.get?_push_size _ rfl
  refine wpAny_bind ?_
  show wpAny _ j.in1 (updateSeq s.heap.objs.size (·.push .none) >>= fun _ => updateSeq s.heap.objs.size (·.pop)) _ _ _
  refine wpAny_bind (wpAny_updateSeq hS₁ rfl ?_)
  have hS₂ := Heap.get?_update_self (Obj.mapSeq (·.push Value.none)) hS₁ rfl
  refine wpAny_updateSeq hS₂ rfl ?_
  have hS₃ := Heap.get?_update_self (Obj.mapSeq (·.pop)) hS₂ rfl
  have oth : ∀ b o, b ≠ s.heap.objs.size → (s.heap.push { cls := .type "list", data := .seq ([] : List Value).toArray }).get? b = some o →
      (((s.heap.push { cls := .type "list", data := .seq ([] : List Value).toArray }).update s.heap.objs.size (Obj.mapSeq (·.push Value.none))).update s.heap.objs.size (Obj.mapSeq (·.pop))).get? b = some o :=
    fun b o hb e => (Heap.get?_update_other _ _ (Ne.symm hb)).trans ((Heap.get?_update_other _ _ (Ne.symm hb)).trans e)
  have mv : Mv H1 (upd H1 s.heap.objs.size (.lst [])) s { s with heap := (((s.heap.push { cls := .type "list", data := .seq ([] : List Value).toArray }).update s.heap.objs.size (Obj.mapSeq (·.push Value.none))).update s.heap.objs.size (Obj.mapSeq (·.pop))) } :=
    mv_new (Nat.le_refl _) (fun b o e => oth b o (Nat.ne_of_lt (Heap.lt_size e)) (k1 b o e)) hS₃
  refine wpAny_pure ⟨plainId_quiet F.plain_extend_loop _, ext_loop hh hroom hk hj hS1 hG hSa (fun s' ρ H I' A => ?_) m0 _ (start _ Acc.cons m0 (Nat.le_refl _) _ ρ1 _ mv (Acc.start w1 hS1) (oth a _ (Ne.symm hSa) (k1 _ _ ha)) rfl)⟩
  obtain ⟨vs, hu, rs⟩ := A.at_
  obtain ⟨hz2, its, c, rits, eS⟩ := I'.hok _ _ hu
  show wpAny _ j (load s.heap.objs.size >>= _) _ _ s'
  refine wpAny_bind (wpAny_load eS ?_)
  refine wpAny_pure ?_
  have hl := rits.length
  simpa using hQ s' ρ H vs its I' A.ext A.wf rs rits (by omega)
theorem con_tuple (hh : X.A.handled = none) (hroom : X.A.depth < recursionLimit) : ConR X G .tuple (.type "tuple") := by
  intro pins σ ρ1 H1 h1 accF z hF v s w h' Q g he go
  obtain ⟨a, gi, gob, m0, rfl, ha, hG, hgi, I, w1, start⟩ := g_first g
  have he : some (PV.tup accF, hF) = some (w, h') := he
  cases he
  refine callType_codes (Q₁ := fun obj s₁ => s₁.TypeIs obj "tuple" ∧ EP X pins σ Q obj s₁) F.called_tuple (F.typeCall_tuple_1 _) F.entry_object_init ?_ fun obj s₁ h₁ => ?_
  · refine codeAny_of_tree ?_
    show wpAny _ X.A.in1.in1 (do checkBuiltinCall "tuple.__new__" ⟨[.type "tuple", .ref a], []⟩; again (.builtin "tuple.__new__" ⟨[.type "tuple", .ref a], []⟩)) _ _ s
    refine wpAny_bind (wpAny_of_eq (F.newCall_tuple_1 _) (wpAny_pure ⟨plainId_quiet F.plain_tuple_new _, codeAny_builtin F.entry_tuple_new ?_⟩))
    rw [Around.under_plainId F.plain_tuple_new _]
    have hsub := sub_tuple_self
    have hinit := init_tuple_lookup
    have hmh := madeHere_tuple
    have hTI : s.TypeIs (.ref a) "generator" := Heap.IsGen.typeIs (hG _ ha)
    have col : ∀ {Q' : List Value → Shared → Prop} {E' : Value → Shared → Prop}, (∀ s' ρ H vs us, Inv X pins σ H s' → Ext ρ1 ρ H1 H → Wf G ρ hF H → Reps G.K ρ H accF vs → Vals vs us → us.length ≤ sizeLine → Q' us s') → wpAny (model X.prog X.w) X.A.in1.in1 (collect (.ref a)) Q' E' s :=
      fun hQ' => g_collect hh hroom rfl (fun h => wpAny_of_in1 h) g hQ'
    wp_walk using wpAny_typeOf hTI, col
    intro s' ρ H vs us I' x' w' rs rv hz
    show wpAny _ _ (Builtin.Tuple.tupleExact us.toArray >>= fun v => ret v) _ _ _
    unfold Builtin.Tuple.tupleExact
    refine wpAny_bind (wpAny_newObj_type ?_ (by show us.toArray.size ≤ sizeLine; rw [List.size_toArray]; exact hz))
    refine wpAny_pure ⟨⟨_, Heap.get?_push_size _ rfl, rfl⟩, ?_⟩
    exact laidT (t' := s'.toks) (h' := s'.heap) I' (fun _ _ e => e) rv (by rw [rv.length]; exact hz) ((go.mono x').newTup w' rs)
  · exact ⟨h₁.1, F.args_object_init_2 obj _, object_init_meets F.called_tuple.init.lookup F.called_tuple.made (by decide) X.prog X.w X.A.in1 _ s₁ ⟨h₁.1, rfl, h₁.2⟩⟩
end
end Mi
set_option Elab.async false
set_option linter.all false
set_option maxRecDepth 100000
set_option maxHeartbeats 2000000
/-! Mk A: sorted of a generator -/
namespace Mi
open PySem PySem.Spec PyProof.Rows L2 GenW

section
variable {X : Cx} {G : Gs} {cd : Option (Addr × Addr)} {P : Pg} {cl : Cl}
theorem con_sorted (hh : X.A.handled = none) (hroom : X.A.depth < recursionLimit) : ConR X G .sorted (.builtin "sorted") := by
  intro pins σ ρ1 H1 h1 accF z hF v s w h' Q g he go
  obtain ⟨a, gi, gob, m0, rfl, ha, hG, hgi, I, w1, start⟩ := g_first g
  have he : psort accF hF = some (w, h') := he
  refine Calls.call_function_entry kind_sorted plain_sorted entry_sorted (args_sorted1 _) ?_
  unfold Builtin.«sorted»
  refine wpAny_bind (m := checkCount "sorted" 1 1 _) (wpAny_pure ?_)
  refine wpAny_bind (g_collect hh hroom (k := .sorted) rfl (fun h => wpAny_of_in1 (wpAny_of_in1 h)) g fun s' ρ H vs us I' x' w' rs rv hz => ?_)
  have hst : ∃ ss, allStr accF = some ss := by
    unfold psort at he
    obtain ⟨_, he⟩ := ite_some he
    cases q : allStr accF with
    | some ss => exact ⟨ss, rfl⟩
    | none => rw [q] at he; simp at he
  obtain ⟨ss, rfl, h64, hq⟩ := go_sorted w' rs he hst (go.mono x')
  refine wpAny_bind (wpAny_newList ?_)
  have hob : (s'.heap.push (seqObj "list" us.toArray 0)).get? s'.heap.objs.size = some (seqObj "list" us.toArray 0) := Heap.get?_push_size _ rfl
  have hS := rv.strs
  refine wpAny_bind (wpAny_holding (wpAny_call_entry slot_list_sort ⟨_, hob, rfl⟩ entry_list_sort (list_sort_treeK strKind_oneLt hob hS.keysOf (fun v₁ v₂ rest e => keyKind_strs (by rw [← e]; exact hS)) (by rw [← rv.length, List.length_map]; exact h64) fun st' hp hs => ⟨.none, rfl, ?_⟩) (args_list_sort _)))
  obtain ⟨ys, h1, h2, h3⟩ := sorted_out_str hS hp hs
  obtain ⟨ep, he'⟩ := sortedHeap_at (vs := us) (out := (arrOf st').map (·.2)) hob
  have hlen : (ys.map V.str).length ≤ sizeLine := by rw [List.length_map, h2.length_eq]; exact small64 h64
  refine wpAny_pure ⟨_, rfl, ?_⟩
  have k : ∀ b o, s'.heap.get? b = some o → (sortedHeap (s'.heap.push (seqObj "list" us.toArray 0)) s'.heap.objs.size us ((arrOf st').map (·.2))).get? b = some o := fun b o e => by
    have hb : b < s'.heap.objs.size := Heap.lt_size e
    rw [sortedHeap_old (Nat.ne_of_lt hb) (by rw [size_push']; exact Nat.lt_succ_of_lt hb)]
    exact Heap.get?_push_of_some _ e
  exact ⟨.ref _, upd H s'.heap.objs.size (.lst (ys.map V.str)), I'.laid (t' := s'.toks) k (Nat.le_refl _) ⟨hlen, _, ep, vals_of_strs h1, he'⟩, rfl, hq ys _ h2 h3 (I'.hok.fresh (Nat.le_refl _))⟩
end
end Mi
set_option Elab.async false
set_option linter.all false
set_option maxRecDepth 100000
set_option maxHeartbeats 2000000
/-! Mk E: a set of texts, with its order -/
namespace Mi
open PySem PySem.Spec PyProof.Rows L2

def txtOf (e : Int × Value) : Str := match e.2 with | .str k _ => k | _ => Str.empty
/-- an entry that is a text -/
def TxtE (w : World) (e : Int × Value) : Prop := ∃ k tk, e.2 = Value.str k tk ∧ e.1 = hashStr w k
/-- the set of texts at a: its members ks, each once, in any order -/
def TxtSet (w : World) (h : Heap) (a : Addr) (ks : List Str) : Prop :=
  ∃ o es ep t, h.get? a = some o ∧ o.ExactSet ∧ o.data = .set es ep t ∧ (∀ e ∈ es.toList, TxtE w e) ∧ (es.toList.map txtOf).Perm ks ∧ ks.Nodup ∧
    es.size < scanBound ∧ t.fits es.size = true ∧ Ris t.place.toList ∧ (w.params.followText "set-order" = true ∨ t.led = true)
section
variable {P : Program} {w : World} {h h' : Heap} {a : Addr} {ks : List Str}
theorem TxtSet.at (R : TxtSet w h a ks) (k : ∀ o, h.get? a = some o → h'.get? a = some o) : TxtSet w h' a ks := by
  obtain ⟨o, es, ep, t, ho, r⟩ := R
  exact ⟨o, es, ep, t, k o ho, r⟩
theorem txt_elems {l : List (Int × Value)} (g : ∀ e ∈ l, TxtE w e) : ElemsOf (PySem.strKind P w) l := fun e he => by
  obtain ⟨k, tk, h1, h2⟩ := g e he
  exact ⟨⟨k, by rw [h1]; exact strKind_is P w k tk, h2⟩, by rw [h1]; rfl⟩
theorem txt_is {e : Int × Value} (g : TxtE w e) (k : Str) : (PySem.strKind P w).is k e.2 = true ↔ txtOf e = k := by
  obtain ⟨k0, tk, h1, _⟩ := g
  unfold txtOf
  rw [h1]
  constructor
  · intro q
    obtain ⟨t, e⟩ := Value.isStrOf_shape (x := k) (v := .str k0 tk) q
    injection e
  · intro q
    subst q
    exact strKind_is P w k0 tk
end
section
variable {P : Program} {w : World} {A : Around} {E : Value → Shared → Prop} {s : Shared} {a : Addr} {ks : List Str}
theorem txt_tail {g : Bool → Sem Unit} (hg : ∀ (b : Bool) (s₁ : Shared) (Q' : Unit → Shared → Prop), Q' () s₁ → wpAny (model P w) A (g b) Q' E s₁)
    {o : Obj} {es : Array (Int × Value)} {ep : Nat} {t : SetTable} (ho : s.heap.get? a = some o) (hex : o.ExactSet) (hd : o.data = .set es ep t)
    {es1 : Array (Int × Value)} {t2 : SetTable} (g1 : ∀ e ∈ es1.toList, TxtE w e) (pk : (es1.toList.map txtOf).Perm ks) (nd : ks.Nodup)
    (hb1 : es1.size < scanBound) (hf2 : t2.fits es1.size = true) (hr : Ris t2.place.toList) (hl : w.params.followText "set-order" = true ∨ t2.led = true) {wd : Bool} {R : Option Bool → Shared → Prop}
    (hR : ∀ h', Heap.SameBut a s.heap h' → TxtSet w h' a ks → R (some true) { s with heap := h' }) :
    wpAny (model P w) A (do
        storeSet a es1 t2
        if (!wd && t2.tooFull) = true then do
            g (relayAll t2 es1 (SetTable.grown es1.size)).2.2
            storeSet a (relayAll t2 es1 (SetTable.grown es1.size)).1 (relayAll t2 es1 (SetTable.grown es1.size)).2.1
            pure (some true)
          else pure (some true)) R E s := by
  refine wpAny_bind (wpAny_storeSet_of ho hd ?_ (fits_of_scanBound hb1))
  have ho1 := store_at (es' := es1) (t' := t2) ho hd
  have sb := Heap.SameBut.update s.heap a (Obj.putSet es1 t2)
  by_cases c : (!wd && t2.tooFull) = true
  · rw [if_pos c]
    have pm := relayAll_perm t2 es1 (SetTable.grown es1.size)
    have hs : (relayAll t2 es1 (SetTable.grown es1.size)).1.size = es1.size := by rw [← Array.length_toList, pm.length_eq, Array.length_toList]
    have hb2 : (relayAll t2 es1 (SetTable.grown es1.size)).1.size < scanBound := by rw [hs]; exact hb1
    refine wpAny_bind (hg _ _ _ (wpAny_bind (wpAny_storeSet_of ho1 rfl (wpAny_pure (hR _ (sb.trans (Heap.SameBut.update _ a _)) ?_)) (fits_of_scanBound hb2))))
    exact ⟨_, _, _, _, store_at ho1 rfl, hex, rfl, fun e he => g1 e (pm.mem_iff.mp he), (pm.map txtOf).trans pk, nd, hb2, relayAll_fits .., relayAll_ris .., hl.imp id fun z => by rw [relayAll_led]; exact z⟩
  · rw [if_neg c]
    exact wpAny_pure (hR _ sb ⟨_, es1, _, t2, ho1, hex, rfl, g1, pk, nd, hb1, hf2, hr, hl⟩)
/-- a text taken in -/
theorem txt_add {k : Str} {tk : Tok} {Q : Bool → Shared → Prop} (R : TxtSet w s.heap a ks) (room : ks.length + 1 < scanBound)
    (hQ : ∀ h', Heap.SameBut a s.heap h' → TxtSet w h' a (if k ∈ ks then ks else ks ++ [k]) → Q (!decide (k ∈ ks)) { s with heap := h' }) :
    wpAny (model P w) A (setAddHashed a (.str k tk) (hashStr w k)) Q E s := by
  obtain ⟨o, es, ep, t, ho, hex, hd, g, pk, nd, hb, hf, hr, hl⟩ := R
  have hkey : (PySem.strKind P w).is k (.str k tk) = true := strKind_is P w k tk
  have hsc : (Value.str k tk).scannable = true := rfl
  have hel : ElemsOf (PySem.strKind P w) es.toList := txt_elems g
  have mem : k ∈ ks ↔ ∃ e ∈ es.toList, (PySem.strKind P w).is k e.2 = true := by
    rw [← pk.mem_iff, List.mem_map]
    exact ⟨fun ⟨e, he, q⟩ => ⟨e, he, (txt_is (g e he) k).2 q⟩, fun ⟨e, he, q⟩ => ⟨e, he, (txt_is (g e he) k).1 q⟩⟩
  have hn : es.size = ks.length := by rw [← pk.length_eq, List.length_map, Array.length_toList]
  unfold setAddHashed setAddHashedIn
  refine wpAny_holding (wpAny_bind (wpAny_setState_of ho hd hf ?_))
  dsimp only
  rw [byScan_of hsc hb hel]
  simp only [↓reduceIte]
  unfold setAddByScan
  refine wpAny_bind ?_
  refine wpAny_bind (wpAny_rule ?_)
  refine wpAny_bind (wpAny_setScan_of (knd := PySem.strKind P w) hkey ho hd hf hel ?_)
  cases hfi : List.findIdx? (fun e => (PySem.strKind P w).is k e.2) es.toList with
  | some j =>
    dsimp only
    obtain ⟨hj, pj, _⟩ := List.findIdx?_eq_some_iff_getElem.mp hfi
    have hk : k ∈ ks := mem.2 ⟨es.toList[j], List.getElem_mem hj, pj⟩
    have q := hQ s.heap (Heap.SameBut.refl a s.heap) (by rw [if_pos hk]; exact ⟨o, es, ep, t, ho, hex, hd, g, pk, nd, hb, hf, hr, hl⟩)
    rw [decide_eq_true hk] at q
    exact wpAny_pure (wpAny_pure q)
  | none =>
    dsimp only
    have hk : k ∉ ks := fun z => by
      obtain ⟨e, he, q⟩ := mem.1 z
      have c := List.findIdx?_eq_none_iff.mp hfi e he
      rw [q] at c
      cases c
    have hgw : ∀ (b : Bool) {s₁ : Shared} {Q' : Unit → Shared → Prop}, Q' () s₁ → wpAny (model P w) A (match b with | true => rule "set.scan.the-table-gave-way" | false => pure ()) Q' E s₁ :=
      fun b s₁ Q' q => by cases b <;> first | exact wpAny_pure q | exact wpAny_rule q
    have pm := layNew_perm t es (hashStr w k) (.str k tk)
    have hf1 := layNew_fits t es (hashStr w k) (.str k tk)
    have hr1 := layNew_ris t es (hashStr w k) (.str k tk) hr
    have hl1 := layNew_led t es (hashStr w k) (.str k tk)
    show wpAny _ _ (match layNew t es (hashStr w k) (.str k tk) with | _ => _) _ _ _
    generalize layNew t es (hashStr w k) (.str k tk) = Z at pm hf1 hr1 hl1 ⊢
    obtain ⟨es1, t1, wd, gave⟩ := Z
    dsimp only at pm hf1 hr1 hl1 ⊢
    rw [Array.toList_push] at pm
    have g1 : ∀ e ∈ es1.toList, TxtE w e := fun e he => by
      rcases List.mem_append.mp (pm.mem_iff.mp he) with z | z
      · exact g e z
      · rw [List.mem_singleton.mp z]; exact ⟨k, tk, rfl, rfl⟩
    have pk1 : (es1.toList.map txtOf).Perm (ks ++ [k]) := by
      have q := pm.map txtOf
      rw [List.map_append] at q
      exact q.trans (pk.append_right _)
    have nd1 : (ks ++ [k]).Nodup := List.nodup_append.mpr ⟨nd, by simp, fun x hx y hy z => by rw [List.mem_singleton.mp hy] at z; exact hk (z ▸ hx)⟩
    have hb1 : es1.size < scanBound := by
      have : es1.size = ks.length + 1 := by rw [← Array.length_toList, pm.length_eq, List.length_append, Array.length_toList, hn]; rfl
      rw [this]; exact room
    have hled : w.params.followText "set-order" = true ∨ t1.led = true := hl.imp id fun z => by rw [hl1]; exact z
    have fin : ∀ h', Heap.SameBut a s.heap h' → TxtSet w h' a (ks ++ [k]) → Q true { s with heap := h' } := fun h' sb r => by
      have q := hQ h' sb (by rw [if_neg hk]; exact r)
      rw [decide_eq_false hk] at q
      exact q
    refine wpAny_bind (hgw _ ?_)
    split
    · refine wpAny_bind ?_
      rw [hashByValue_scannable 8 hsc]
      refine wpAny_pure ?_
      refine txt_tail ?_ ho hex hd g1 pk1 nd1 hb1 ?_ ?_ ?_ ?_
      · intro b s₁ Q' q; cases b <;> first | exact wpAny_pure q | exact wpAny_rule q
      · first | (split <;> first | exact hf1 | exact SetTable.fits_plain_off hf1) | exact hf1
      · first | (split <;> exact hr1) | exact hr1
      · first | (split <;> exact hled) | exact hled
      · intro h' sb r; dsimp only; exact wpAny_pure (fin h' sb r)
    · refine wpAny_bind (wpAny_pure ?_)
      simp only [↓reduceIte]
      refine txt_tail ?_ ho hex hd g1 pk1 nd1 hb1 hf1 hr1 hled ?_
      · intro b s₁ Q' q; cases b <;> first | exact wpAny_pure q | exact wpAny_rule q
      · intro h' sb r; dsimp only; exact wpAny_pure (fin h' sb r)
end
/-- the texts, each once, as they first come -/
def onceS : List Str → List Str → List Str
  | acc, [] => acc
  | acc, x :: r => onceS (if x ∈ acc then acc else acc ++ [x]) r
theorem onceS_len : ∀ (xs acc : List Str), (onceS acc xs).length ≤ acc.length + xs.length
  | [], acc => by simp [onceS]
  | x :: r, acc => by
    unfold onceS
    refine Nat.le_trans (onceS_len r _) ?_
    split <;> simp <;> omega
section
variable {prog : Program} {w : World} {A : Around} {R : Result → Shared → Prop} {I : Addr} {fp wr : List Addr} {G : Array GenState → Array GenState → Prop} {n : Nat} {P : Nat → Value → Prop} {St : Nat → Shared → Prop}
theorem txt_loop (W : WalksS prog w A.in1 I fp wr G n P St) (S : Addr) (hSf : S ∉ fp) (xs : List Str) (hsz : xs.length = n) (hval : ∀ i v, P i v → ∃ t, v = .str (xs.getD i Str.empty) t) :
    ∀ (k i : Nat) (s : Shared) (acc : List Str), n - i = k → i ≤ n → acc.length + k + 1 < scanBound → St i s → TxtSet w s.heap S acc →
      (∀ s', Moved (S :: wr) G s s' → TxtSet w s'.heap S (onceS acc (xs.drop i)) → R (.ok (.ret .none)) s') →
      codeAny (model prog w) A (.builtin "set.update.loop" ⟨[.ref S, .ref I], []⟩) R s := by
  have hSw : S ∉ wr := fun h => hSf (W.sub _ h)
  have hsub : ∀ b ∈ wr, b ∈ S :: wr := fun b hb => List.mem_cons_of_mem _ hb
  intro k
  induction k with
  | zero =>
    intro i s acc hk hi hb hst hS hR
    obtain rfl : i = n := by omega
    refine codeAny_builtin PyProof.Rows.F.entry_set_update_loop ?_
    rw [Around.under_plainId PyProof.Rows.F.plain_set_update_loop _]
    show wpAny _ A.in1 (pyNext (.ref I) >>= _) _ _ s
    refine wpAny_bind (W.done s _ _ hst fun s' hm => ?_)
    have e : xs.drop i = [] := List.drop_eq_nil_of_le (by omega)
    exact wpAny_pure (hR s' (hm.mono hsub) (by rw [e]; exact hS.at fun o => hm.heap S o hSw))
  | succ k ih =>
    intro i s acc hk hi hb hst hS hR
    have hlt : i < n := by omega
    refine codeAny_builtin PyProof.Rows.F.entry_set_update_loop ?_
    rw [Around.under_plainId PyProof.Rows.F.plain_set_update_loop _]
    show wpAny _ A.in1 (pyNext (.ref I) >>= _) _ _ s
    refine wpAny_bind (W.item i s _ _ hlt hst fun v s' hP hst' hm => ?_)
    obtain ⟨t, rfl⟩ := hval i v hP
    have hx : xs.drop i = xs.getD i Str.empty :: xs.drop (i + 1) := by
      rw [List.drop_eq_getElem_cons (by omega), List.getD_eq_getElem?_getD, List.getElem?_eq_getElem (by omega)]; rfl
    have hS' : TxtSet w s'.heap S acc := hS.at fun o => hm.heap S o hSw
    show wpAny _ A.in1 (holding [Value.str (xs.getD i Str.empty) t] (setAdd S (.str (xs.getD i Str.empty) t)) >>= _) _ _ s'
    refine wpAny_bind (wpAny_holding ?_)
    unfold setAdd
    refine wpAny_holding ?_
    refine wpAny_bind ((PySem.strKind prog w).pyHash (k := xs.getD i Str.empty) (strKind_is _ _ _ _) ?_)
    refine txt_add (s := { s' with toks := s'.toks + 1 }) hS' (by omega) fun h' hsb hS2 => ?_
    refine wpAny_pure ⟨plainId_quiet PyProof.Rows.F.plain_set_update_loop _, ih (i + 1) _ _ (by omega) hlt ?_ (W.frame _ s' _ _ hst' (Nat.le_succ _) fun b hb o e => ?_) hS2 fun s'' hm'' hS'' => ?_⟩
    · split
      · omega
      · rw [List.length_append, List.length_singleton]; omega
    · rw [hsb.2 b (fun h : b = S => hSf (by rw [← h]; exact hb))]; exact e
    · refine hR s'' (Moved.trans W.gtrans ((hm.mono hsub).then_heap (Nat.le_succ _) fun b o hb e => ?_) hm'') ?_
      · rw [hsb.2 b (fun h : b = S => hb (by rw [h]; exact List.mem_cons_self))]; exact e
      · rw [hx]; exact hS''
end
theorem txt_fresh {h : Heap} (w : World) : TxtSet w (h.push { cls := .type "set", dict := none, data := .set #[] 0 (.fresh 0 0 (!w.params.followText "set-order")) }) h.objs.size [] :=
  ⟨_, #[], 0, _, Heap.get?_push_size _ rfl, ⟨rfl, rfl, rfl⟩, rfl, (fun e he => by simp at he), .nil, .nil, (by decide), (by rfl), List.Pairwise.nil, by
    show _ ∨ (!w.params.followText "set-order") = true
    cases w.params.followText "set-order"
    · exact .inr rfl
    · exact .inl rfl⟩
section
variable {P : Program} {w : World} {A : Around} {E : Value → Shared → Prop} {s : Shared}
theorem code_set1 (a : Value) {Q : Value → Shared → Prop} (h : Q (.ref s.heap.objs.size) { s with heap := s.heap.push { cls := .type "set", dict := none, data := .set #[] 0 (.fresh 0 0 (!w.params.followText "set-order")) } }) :
    codeAny (model P w) A (.call (.builtin "set.__new__") ⟨[.type "set", a], []⟩) (wants Q E) s := by
  refine codeAny_of_tree ?_
  show wpAny _ A.in1 (do checkBuiltinCall "set.__new__" ⟨[.type "set", a], []⟩; again (.builtin "set.__new__" ⟨[.type "set", a], []⟩)) _ _ s
  refine wpAny_bind (wpAny_of_eq (PySem.F.newCall_set_1 a) (wpAny_pure ⟨plainId_quiet F.plain_set_new _, codeAny_builtin F.entry_set_new ?_⟩))
  rw [Around.under_plainId F.plain_set_new _]
  unfold Builtin.«set.__new__» Builtin.Frozenset.newClass
  have hsub := sub_set_self
  obtain ⟨hp, g, d, tk, os⟩ := s
  dsimp only
  wp_walk
  refine wpAny_askSetting (wpAny_pure ?_)
  dsimp only
  simp only [newObj]
  exact wpAny_bind (wpAny_alloc (wpAny_pure (wpAny_pure h)))
end
section
variable {P : Program} {w : World} {A : Around} {E : Value → Shared → Prop} {s : Shared}
set_option maxHeartbeats 3200000 in
theorem txt_set_list {l : Addr} {items : Array Value} {xs : List Str} {Q : Value → Shared → Prop} (hh : A.handled = none) (hl : s.heap.IsList l items) (hi : PyProof.Rows.StrsAre items.toList xs) (hn : xs.length + 1 < scanBound)
    (h : ∀ (h' : Heap) (tk : Nat), TxtSet w h' s.heap.objs.size (onceS [] xs) → (∀ b o, s.heap.get? b = some o → h'.get? b = some o) → Q (.ref s.heap.objs.size) { s with heap := h', toks := tk }) :
    wpAny (model P w) A (call (.type "set") [.ref l]) Q E s := by
  obtain ⟨c, tl, hmro⟩ := PySem.F.called_set.mro
  have hmade := PySem.F.called_set.made
  have hsub := PySem.F.called_set.sub
  refine wpAny_call (codeAny_of_tree ?_)
  show wpAny _ _ (callAny (.type "set") _) _ _ _
  refine wpAny_pure ⟨Code.quiet_builtin _ (by decide +kernel), codeAny_builtin PySem.F.entry_type_call ?_⟩
  rw [Around.under_plain (weight_type_call_type "set" [.ref l] []) rfl]
  have h1 := PySem.F.called_set.notType
  have h2 := PySem.F.called_set.canCreate
  have hct := PySem.F.typeCall_set_1 (.ref l)
  repeat (any_goals (first | assumption | wp_step))
  refine codeAny_mono (code_set1 (.ref l) (E := E) (Q := fun obj s₁ => obj = .ref s.heap.objs.size ∧ s₁ = { s with heap := s.heap.push { cls := .type "set", dict := none, data := .set #[] 0 (.fresh 0 0 (!w.params.followText "set-order")) } }) ⟨rfl, rfl⟩) fun r s₁ hr => ?_
  cases r with
  | error e => exact hr
  | ok fl =>
    cases fl with
    | ret obj =>
      obtain ⟨rfl, rfl⟩ := hr
      have T0 := txt_fresh (h := s.heap) w
      have hS : (s.heap.push { cls := .type "set", dict := none, data := .set #[] 0 (.fresh 0 0 (!w.params.followText "set-order")) }).get? s.heap.objs.size = some { cls := .type "set", dict := none, data := .set #[] 0 (.fresh 0 0 (!w.params.followText "set-order")) } := Heap.get?_push_size _ rfl
      have hT : Shared.TypeIs { s with heap := s.heap.push { cls := .type "set", dict := none, data := .set #[] 0 (.fresh 0 0 (!w.params.followText "set-order")) } } (.ref s.heap.objs.size) "set" := ⟨_, hS, rfl⟩
      have hli := PySem.F.called_set.init.lookup
      have hbi := PySem.F.called_set.init.bind (.ref s.heap.objs.size)
      repeat (any_goals (first | assumption | wp_step))
      refine codeAny_mono (codeAny_call_builtin (R := wants (fun r s₂ => r = .none ∧ ∃ h' tk, s₂ = { s with heap := h', toks := tk } ∧ TxtSet w h' s.heap.objs.size (onceS [] xs) ∧ (∀ b o, s.heap.get? b = some o → h'.get? b = some o)) E) PySem.F.called_set.init.plain PySem.F.entry_set_init (check_set_init_1 hT ?_)) fun r₂ s₂ hr₂ => ?_
      · obtain ⟨ol, hol, hcl, nl, hdl⟩ := hl
        obtain ⟨ocls, odict, odata, oslots⟩ := ol
        simp only at hcl hdl
        subst hcl; subst hdl
        have hol' := Heap.get?_push_of_some { cls := .type "set", dict := none, data := .set #[] 0 (.fresh 0 0 (!w.params.followText "set-order")) } hol
        have hsls := PySem.F.sub_list_set
        have hslf := PySem.F.sub_list_frozenset
        have hne : (Value.type "list" == Value.type "dict") = false := by decide
        have hl1 : (s.heap.push { cls := .type "set", dict := none, data := .set #[] 0 (.fresh 0 0 (!w.params.followText "set-order")) }).IsList l items := ⟨_, hol', rfl, nl, rfl⟩
        unfold Builtin.«set.__init__» noKeywords Builtin.Frozenset.updateFrom
        generalize hPI : pyIter = PI
        wp_walk
        subst hPI
        refine wpAny_pyIter_list hl1 ?_
        refine wpAny_bind (wpAny_runValue ?_)
        have hlS : l < s.heap.objs.size := Heap.lt_size hol
        have hh3 : A.in1.in1.in1.handled = none := by simp [hh]
        have hneI : l ≠ (s.heap.push { cls := .type "set", dict := none, data := .set #[] 0 (.fresh 0 0 (!w.params.followText "set-order")) }).objs.size := by
          rw [Heap.size_push]; exact Nat.ne_of_lt (Nat.lt_succ_of_lt hlS)
        have hSf : s.heap.objs.size ∉ [(s.heap.push { cls := .type "set", dict := none, data := .set #[] 0 (.fresh 0 0 (!w.params.followText "set-order")) }).objs.size, l] := by
          rw [Heap.size_push]; simp only [List.mem_cons, List.mem_singleton, List.not_mem_nil, or_false, not_or]
          exact ⟨Nat.ne_of_lt (Nat.lt_succ_self _), Nat.ne_of_gt hlS⟩
        have hsz : xs.length = items.size := by rw [← StrsAre.len_eq hi, Array.length_toList]
        have hval : ∀ (i : Nat) (v : Value), items[i]? = some v → ∃ t, v = .str (xs.getD i Str.empty) t := fun i v hv => SS.strs_at hi i v (by rw [Array.getElem?_toList]; exact hv)
        refine txt_loop ((Walks.list hh3 _ l hneI items).toS) s.heap.objs.size hSf xs hsz hval (items.size - 0) 0 _ [] (by omega) (Nat.zero_le _) (by simp; omega) ⟨⟨_, Heap.get?_push_size _ rfl, rfl, rfl⟩, (hl1.push _)⟩
          (T0.at fun o e => Heap.get?_push_of_some _ e) fun s' hm hS' => ?_
        obtain ⟨h', g', d', tk', os'⟩ := s'
        have eg : g' = s.gens := hm.gens
        have ed : d' = s.drawn := hm.drawn
        have eo : os' = s.os := hm.os
        subst eg; subst ed; subst eo
        refine wpAny_pure (wpAny_pure ⟨rfl, h', tk', rfl, hS', fun b o e => ?_⟩)
        have hb : b < s.heap.objs.size := Heap.lt_size e
        have hb2 : b ≠ (s.heap.push { cls := .type "set", dict := none, data := .set #[] 0 (.fresh 0 0 (!w.params.followText "set-order")) }).objs.size := by
          rw [Heap.size_push]; exact Nat.ne_of_lt (Nat.lt_succ_of_lt hb)
        exact hm.heap b o (by simp only [List.mem_cons, List.mem_singleton, List.not_mem_nil, or_false, not_or]; exact ⟨Nat.ne_of_lt hb, hb2⟩) (Heap.get?_push_of_some _ (Heap.get?_push_of_some _ e))
      · cases r₂ with
        | error e => exact hr₂
        | ok fl₂ =>
          cases fl₂ with
          | ret r =>
            obtain ⟨rfl, h', tk, rfl, hS', hk'⟩ := hr₂
            repeat (any_goals (first | assumption | wp_step))
            exact h _ _ hS' hk'
          | _ => exact hr₂.elim
    | _ => exact hr.elim
end
end Mi
set_option Elab.async false
set_option linter.all false
set_option maxRecDepth 100000
set_option maxHeartbeats 2000000
/-! Mk F: sorted(set(..)) of texts -/
namespace Mi
open PySem PySem.Spec PyProof.Rows L2
section
variable {P : Program} {w : World} {A : Around} {E : Value → Shared → Prop} {s : Shared} {a : Addr} {ks : List Str}
theorem strs_ofE : ∀ (l : List (Int × Value)), (∀ e ∈ l, TxtE w e) → StrsAre (l.map (·.2)) (l.map txtOf)
  | [], _ => .nil
  | e :: l, h => by
    obtain ⟨k, tk, h1, _⟩ := h e List.mem_cons_self
    have : txtOf e = k := by unfold txtOf; rw [h1]
    rw [List.map_cons, List.map_cons, h1, this]
    exact .cons k tk (strs_ofE l fun u hu => h u (List.mem_cons_of_mem _ hu))
theorem strs_perm {l1 l2 : List Value} (p : l1.Perm l2) : ∀ {ks : List Str}, StrsAre l2 ks → ∃ ks', StrsAre l1 ks' ∧ ks'.Perm ks := by
  induction p with
  | nil => intro ks h; exact ⟨ks, h, .refl _⟩
  | cons x p ih =>
    intro ks h
    cases h with
    | cons k t h =>
      obtain ⟨ks', h1, h2⟩ := ih h
      exact ⟨k :: ks', .cons k t h1, h2.cons k⟩
  | swap x y l =>
    intro ks h
    cases h with
    | cons k t h =>
      cases h with
      | cons k2 t2 h => exact ⟨_, .cons k2 t2 (.cons k t h), .swap ..⟩
  | trans p q ih1 ih2 =>
    intro ks h
    obtain ⟨k1, h1, h2⟩ := ih2 h
    obtain ⟨k2, h3, h4⟩ := ih1 h1
    exact ⟨k2, h3, h4.trans h2⟩
theorem sorted_txt {Q : Value → Shared → Prop} (R : TxtSet w s.heap a ks) (hh : A.handled = none) (h64 : ks.length < 64)
    (hQ : ∀ s' p (out : Array Value) (c : Nat) (ys : List Str), (∀ b o, s.heap.get? b = some o → s'.heap.get? b = some o) → s'.gens = s.gens → s'.os = s.os → s.heap.objs.size ≤ p →
      s'.heap.get? p = some (seqObj "list" out c) → StrsAre out.toList ys → ys.Perm ks → sortedS ys = true → Q (.ref p) s') :
    wpAny (model P w) A (call (.builtin "sorted") [.ref a]) Q E s := by
  obtain ⟨o, es, ep, t, ho, hex, hd, g, pk, nd, hb, hf, hr, hl⟩ := R
  refine Calls.call_function_entry kind_sorted plain_sorted entry_sorted (args_sorted1 _) ?_
  unfold Builtin.«sorted»
  refine wpAny_bind (m := checkCount "sorted" 1 1 _) (wpAny_pure ?_)
  refine wpAny_bind (collect_set (A := A.in1) hh ⟨o, ho, hex.1, hd⟩ hf hb hr hl fun s1 vs k1 hz g1 o1 pm => ?_)
  obtain ⟨ks', hS, pk'⟩ := strs_perm pm (strs_ofE _ g)
  have hvl : vs.length = ks.length := by rw [pm.length_eq, List.length_map, ← pk.length_eq, List.length_map]
  refine wpAny_bind (wpAny_newList ?_ (by rw [hvl, sizeLine_eq]; omega))
  have hoL : (s1.heap.push (seqObj "list" vs.toArray 0)).get? s1.heap.objs.size = some (seqObj "list" vs.toArray 0) := Heap.get?_push_size _ rfl
  refine wpAny_bind (wpAny_holding (wpAny_call_entry slot_list_sort ⟨_, hoL, rfl⟩ entry_list_sort (list_sort_treeK strKind_oneLt hoL hS.keysOf (fun v₁ v₂ rest e => keyKind_strs (by rw [← e]; exact hS)) (by rw [hvl]; exact h64) fun st' hp hs => ⟨.none, rfl, ?_⟩) (args_list_sort _)))
  obtain ⟨ys, h1, h2, h3⟩ := sorted_out_str hS hp hs
  obtain ⟨c, hc⟩ := sortedHeap_at (vs := vs) (out := (arrOf st').map (·.2)) hoL
  refine wpAny_pure ⟨_, rfl, hQ _ s1.heap.objs.size _ c ys (fun b u e => ?_) g1 o1 hz hc h1 (h2.trans (pk'.trans pk)) h3⟩
  have q := k1 b u e
  have hlt := Heap.lt_size q
  show (sortedHeap (s1.heap.push (seqObj "list" vs.toArray 0)) s1.heap.objs.size vs _).get? b = some u
  rw [sortedHeap_old (Nat.ne_of_lt hlt) (by rw [size_push']; exact Nat.lt_succ_of_lt hlt)]
  exact Heap.get?_push_of_some _ q
end
section
variable {X : Cx} {G : Gs} {cd : Option (Addr × Addr)} {P : Pg} {cl : Cl} {pins : List (Addr × Obj)} {s : Shared} {σ : L2.St} {H : Hp}
theorem sset_call (hc : X.calm = true) {l : Addr} {xs : List Str} {Q : VK} (hs : SqL X.K H l (xs.map V.str)) (h64 : xs.length < 64) (I : Inv X pins σ H s)
    (q : ∀ ys p, ys.Perm (onceS [] xs) → sortedS ys = true → H p = none → Q (.ref p) (upd H p (.lst (ys.map V.str)))) :
    wpAny (model X.prog X.w) X.A (call (.type "set") [.ref l]) (fun v s' => wpAny (model X.prog X.w) X.A (call (.builtin "sorted") [v]) (EP X pins σ Q) X.xe s') X.xe s := by
  obtain ⟨its, rv, hl, _⟩ := I.list hs
  have hl64 : (onceS [] xs).length < 64 := Nat.lt_of_le_of_lt (onceS_len xs []) (by simpa using h64)
  refine txt_set_list (I.ok.hd hc) hl.isList rv.strs (Nat.lt_of_lt_of_le (Nat.succ_lt_succ h64) (by decide)) fun h' tk T k => ?_
  have I1 : Inv X pins σ H { s with heap := h', toks := tk } := I.kept k
  refine sorted_txt T (I.ok.hd hc) hl64 fun s' p out c ys k' g o hp hg hi pm sr => ?_
  have hlen : (ys.map V.str).length ≤ sizeLine := by rw [List.length_map, pm.length_eq]; exact small64 hl64
  have hn : H p = none := I1.hok.fresh hp
  have J : Inv X pins σ (upd H p (.lst (ys.map V.str))) s' := by
    refine Inv.call' (s := { s with heap := h', toks := tk }) (ch := []) I1 o ?_ ?_ ?_ ?_
    · exact Un.laid k' hp hn
    · exact I1.hok.laid k' hp ⟨hlen, out.toList, c, vals_of_strs hi, hg⟩
    · rw [g]; exact I.bare
    · exact fun _ z => nomatch z
  exact ⟨.ref p, _, J, rfl, q ys p pm sr hn⟩
theorem onceG_map : ∀ (xs acc : List Sg), onceS (acc.map toS) (xs.map toS) = (onceG acc xs).map toS
  | [], acc => rfl
  | x :: r, acc => by
    have hm : (toS x ∈ acc.map toS) ↔ x ∈ acc := by
      rw [List.mem_map]
      exact ⟨fun ⟨y, hy, e⟩ => by rw [← toS_inj e]; exact hy, fun h => ⟨x, h, rfl⟩⟩
    rw [List.map_cons]
    unfold onceS onceG
    by_cases h : x ∈ acc
    · rw [if_pos h, if_pos (hm.2 h)]; exact onceG_map r acc
    · rw [if_neg h, if_neg (fun z => h (hm.1 z))]
      have := onceG_map r (acc ++ [x])
      rw [List.map_append] at this
      exact this
theorem rd_sset {a : E} {x y : Str} {e : Expr} {p p2 pos pos2 : Pos} (hK : X.K = G.K) (hc : X.calm = true) (hx : x = "sorted") (hy : y = "set") (hg : Gl X x) (hm : X.mg x = none) (hg2 : Gl X y) (hm2 : X.mg y = none) (ha : PA X [e] (RL G cd P cl a))
    (he : starEach [e] X.env = (false, eval e X.env) :: starEach [] X.env) :
    PE X (.Call (.Name x p) [.Call (.Name y p2) [e] [] pos2] [] pos) (RE G cd P cl (.bi .set a)) := by
  subst hx; subst hy
  refine ⟨fun pins s σ H Q I ⟨ρ, σp, h, w, h', sr, wf, ev, g⟩ => ?_⟩
  obtain ⟨xs, h1, e1, e2⟩ := bi_split ev
  have hst : starEach [.Call (.Name "set" p2) [e] [] pos2] X.env = (false, eval (.Call (.Name "set" p2) [e] [] pos2) X.env) :: starEach [] X.env := rfl
  refine wpAny_Call_Name_kw (ld_blt I hg hm (u := .builtin "sorted") (by decide +kernel) ?_ (by decide +kernel) (by decide +kernel))
  refine PyProof.Rows.callWith_builtin1 ?_ hst (by rfl)
  rw [hst]
  show wpAny _ _ (spliced ((false, eval (.Call (.Name "set" p2) [e] [] pos2) X.env) :: backTo pos (starEach [] X.env))) _ _ s
  refine Calls.spliced_cons (thn (Q := fun v s' => wpAny (model X.prog X.w) X.A (call (.builtin "sorted") [v]) (EP X pins σ Q) X.xe s') ?_ fun v s' h => Calls.spliced_nil h)
  refine wpAny_Call_Name_kw (ld_blt I hg2 hm2 (u := .type "set") (by decide +kernel) ?_ (by decide +kernel) (by decide +kernel))
  refine PyProof.Rows.callWith_type1 (thn (ha.run pos2 pins s σ H (fun us H1 => ∃ l zs, us = [.ref l] ∧ SqL X.K H1 l (zs.map V.str) ∧ zs.length < 64 ∧ ∀ ys p, ys.Perm (onceS [] zs) → sortedS ys = true → H1 p = none → Q (.ref p) (upd H1 p (.lst (ys.map V.str)))) I ?_) fun us s1 ⟨vs, H1, I1, r1, q1⟩ => ?_) he (by rfl)
  · refine ⟨ρ, σp, h, xs, h1, sr, wf, e1, fun us H1 ρ1 x1 w1 rx => ?_⟩
    cases xs with
    | nil => simp [pbi] at e2
    | cons x r =>
      cases r with
      | cons y r => simp [pbi] at e2
      | nil =>
        obtain ⟨v, rfl, r⟩ := reps1 rx
        cases r with
        | @ref l a ha =>
          have e2 : (match seqOf (.ref l) h1 with | some ys => sset ys h1 | none => none) = some (w, h') := e2
          cases q : seqOf (.ref l) h1 with
          | none => rw [q] at e2; cases e2
          | some ys =>
            rw [q] at e2
            obtain ⟨ws, sq, rs⟩ := seq_refL w1 ha q
            unfold sset at e2
            obtain ⟨z, e2⟩ := ite_some e2
            cases q2 : allStr ys with
            | none => rw [q2] at e2; cases e2
            | some ss =>
              rw [q2] at e2
              obtain ⟨rfl, rfl⟩ := alloc_eq e2
              have hv := allStr_rep rs q2
              refine ⟨a, ss.map toS, rfl, ?_, ?_, fun ys' p hp hsrt hn => ?_⟩
              · rw [hK, ← hv]; exact sq
              · have h1 := rs.length
                rw [hv, List.length_map] at h1
                rw [← h1]; exact z
              · have hp' : ys'.Perm ((onceG [] ss).map toS) := by rw [← onceG_map ss []]; exact hp
                rw [sort_unique hp' hsrt]
                exact (g.mono x1).newLst w1 (strs_rep _) hn
        | _ => simp [pbi] at e2
  · obtain ⟨l, zs, rfl, hs, h64, q⟩ := q1
    rw [Vals.ref1 r1]
    exact sset_call hc hs h64 I1 q
end
end Mi
set_option Elab.async false
set_option linter.all false
set_option maxRecDepth 100000
set_option maxHeartbeats 2000000
/-! Mi Z: a built-in of a generator expression -/
namespace Mi
open PySem PySem.Spec PyProof.Rows L2 GenW

section
variable {X : Cx} {G : Gs} {cd : Option (Addr × Addr)} {P : Pg} {cl : Cl}
theorem gen_split {k : Gc} {own : List Nat} {t it c e : E} {σ : Env1} {h : AH} {r : PV × AH} (ev : evE P cl (.gen k own t it c e) σ h = some r) : ∃ i h1 accF z hF, evI P cl it σ h = some (i, h1) ∧ walk (genF P cl k t c e (wipeP σ own)) i [] h1 = some ((accF, z), hF) ∧ eaten k accF hF = some r := by
  unfold evE at ev
  split at ev
  · split at ev
    · exact ⟨_, _, _, _, _, ‹_›, ‹_›, ev⟩
    · cases ev
  · cases ev
/-- the facts of a generator expression's scope -/
structure GSc (X : Cx) (scope : Scope) (own : List (Str × Nat)) : Prop where
  co : scope.isCoroutine = false
  ok : BlkOk X.N X.env.scope scope own
  nc : ∀ y ∈ scope.names, y.2 ≠ .cell
  dot : scope.names.lookup (".0" : Str) = some NameKind.local
/-- the facts of a context that makes generators -/
structure GXc (X : Cx) (G : Gs) (cd : Option (Addr × Addr)) : Prop where
  room : ∃ r, Room (r + 1) X.A
  calm : X.calm = true
  nd : X.N.Nodup
  code : CodeOk X G cd
  blt : ∃ P0, X.base.BuiltinsAt X.mg P0
variable {k : Gc} {t it c e : E} {elt tg iter : Expr} {ifs : List Expr} {scope : Scope} {own : List (Str × Nat)} {gpos p pos : Pos} {x : Str} {id : String}
theorem rd_genAt {f : Value} (con : ConR X G k f) (gx : GXc X G cd) (gs : GSc X scope own)
    (hi : PI X tg iter (RI G cd P cl it)) (hg : GenCx X scope fun Y cd' => PG Y tg (rdG G cd' t)) (ht : GenCx X scope fun Y cd' => PTs Y ifs (RT G cd' P cl c)) (he : GenCx X scope fun Y cd' => PE Y elt (RE G cd' P cl e)) (hs : ∀ x, genFold iter X.env x = pure x)
    (hwk : it.weak = true → t.isTup = true) (hv : ∀ i ∈ tgVars t, i ∈ own.map (·.2)) (pins : List (Addr × Obj)) (s : Shared) (σ : L2.St) (H : Hp) (Q : VK) (I : Inv X pins σ H s) (q : RE G cd P cl (.gen k (own.map (·.2)) t it c e) σ H Q) :
    wpAny (model X.prog X.w) X.A (eval (.GeneratorExp elt [⟨tg, iter, ifs, 0⟩] scope gpos) X.env) (fun v s' => wpAny (model X.prog X.w) X.A (call f [v]) (EP X pins σ Q) X.xe s') X.xe s := by
  obtain ⟨ρ, σp, h, w, h', sr, wf, ev, g⟩ := q
  obtain ⟨i, h1, accF, z, hF, e1, e2, e3⟩ := gen_split ev
  obtain ⟨r, hr⟩ := gx.room
  refine thn (gen_made hr gx.calm gx.nd gx.code gx.blt gs.co gs.ok gs.nc gs.dot hi hg ht he hs hwk hv I sr wf e1 e2) fun v s' ⟨H1, ρ1, x1, gm⟩ => ?_
  exact con pins σ ρ1 H1 h1 accF z hF v s' w h' Q gm e3 (g.mono x1)
theorem rd_genB (con : ConR X G k (.builtin id)) (gx : GXc X G cd) (gs : GSc X scope own) (hgl : Gl X x) (hm : X.mg x = none) (hb : bootBuiltins x = some (.builtin id)) (hn : x ≠ "__name__") (hdb : (x == ("__debug__" : Str)) = false)
    (hi : PI X tg iter (RI G cd P cl it)) (hg : GenCx X scope fun Y cd' => PG Y tg (rdG G cd' t)) (ht : GenCx X scope fun Y cd' => PTs Y ifs (RT G cd' P cl c)) (he : GenCx X scope fun Y cd' => PE Y elt (RE G cd' P cl e)) (hs : ∀ x, genFold iter X.env x = pure x)
    (hwk : it.weak = true → t.isTup = true) (hv : ∀ i ∈ tgVars t, i ∈ own.map (·.2)) :
    PE X (.Call (.Name x p) [.GeneratorExp elt [⟨tg, iter, ifs, 0⟩] scope gpos] [] pos) (RE G cd P cl (.gen k (own.map (·.2)) t it c e)) := by
  refine ⟨fun pins s σ H Q I q => ?_⟩
  have hst : starEach [.GeneratorExp elt [⟨tg, iter, ifs, 0⟩] scope gpos] X.env = (false, eval (.GeneratorExp elt [⟨tg, iter, ifs, 0⟩] scope gpos) X.env) :: starEach [] X.env := rfl
  refine wpAny_Call_Name_kw (ld_blt I hgl hm hb ?_ hn hdb)
  refine PyProof.Rows.callWith_builtin1 ?_ hst (by rfl)
  rw [hst]
  show wpAny _ _ (spliced ((false, eval (.GeneratorExp elt [⟨tg, iter, ifs, 0⟩] scope gpos) X.env) :: backTo pos (starEach [] X.env))) _ _ s
  exact Calls.spliced_cons (thn (rd_genAt con gx gs hi hg ht he hs hwk hv pins s σ H Q I q) fun v s' h => Calls.spliced_nil h)
theorem rd_genT (con : ConR X G k (.type id)) (gx : GXc X G cd) (gs : GSc X scope own) (hgl : Gl X x) (hm : X.mg x = none) (hb : bootBuiltins x = some (.type id)) (hn : x ≠ "__name__") (hdb : (x == ("__debug__" : Str)) = false)
    (hi : PI X tg iter (RI G cd P cl it)) (hg : GenCx X scope fun Y cd' => PG Y tg (rdG G cd' t)) (ht : GenCx X scope fun Y cd' => PTs Y ifs (RT G cd' P cl c)) (he : GenCx X scope fun Y cd' => PE Y elt (RE G cd' P cl e)) (hs : ∀ x, genFold iter X.env x = pure x)
    (hwk : it.weak = true → t.isTup = true) (hv : ∀ i ∈ tgVars t, i ∈ own.map (·.2)) :
    PE X (.Call (.Name x p) [.GeneratorExp elt [⟨tg, iter, ifs, 0⟩] scope gpos] [] pos) (RE G cd P cl (.gen k (own.map (·.2)) t it c e)) := by
  refine ⟨fun pins s σ H Q I q => ?_⟩
  have hst : starEach [.GeneratorExp elt [⟨tg, iter, ifs, 0⟩] scope gpos] X.env = (false, eval (.GeneratorExp elt [⟨tg, iter, ifs, 0⟩] scope gpos) X.env) :: starEach [] X.env := rfl
  refine wpAny_Call_Name_kw (ld_blt I hgl hm hb ?_ hn hdb)
  refine PyProof.Rows.callWith_type1 ?_ hst (by rfl)
  rw [hst]
  show wpAny _ _ (spliced ((false, eval (.GeneratorExp elt [⟨tg, iter, ifs, 0⟩] scope gpos) X.env) :: backTo pos (starEach [] X.env))) _ _ s
  exact Calls.spliced_cons (thn (rd_genAt con gx gs hi hg ht he hs hwk hv pins s σ H Q I q) fun v s' h => Calls.spliced_nil h)
end
end Mi
set_option Elab.async false
set_option linter.all false
set_option maxRecDepth 100000
set_option maxHeartbeats 2000000
/-! Mk D: a built-in of a generator expression of two clauses -/
namespace Mi
open PySem PySem.Spec PyProof.Rows L2 GenW

section
variable {X : Cx} {G : Gs} {cd : Option (Addr × Addr)} {P : Pg} {cl : Cl}
theorem gen2_split {k : Gc} {own : List Nat} {t it t2 it2 c e : E} {σ : Env1} {h : AH} {r : PV × AH} (ev : evE P cl (.gen2 k own t it t2 it2 c e) σ h = some r) : ∃ i h1 accF z hF, evI P cl it σ h = some (i, h1) ∧ walk (genF2 P cl k t it2 t2 c e (wipeP σ own)) i [] h1 = some ((accF, z), hF) ∧ eaten k accF hF = some r := by
  unfold evE at ev
  split at ev
  · split at ev
    · exact ⟨_, _, _, _, _, ‹_›, ‹_›, ev⟩
    · cases ev
  · cases ev
variable {k : Gc} {t it t2 it2 c e : E} {elt tg iter tg2 iter2 : Expr} {ifs2 : List Expr} {scope : Scope} {own : List (Str × Nat)} {gpos p pos : Pos} {x : Str} {id : String}
theorem rd_gen2At {f : Value} (con : ConR X G k f) (gx : GXc X G cd) (gs : GSc X scope own)
    (hi : PI X tg iter (RI G cd P cl it)) (hg : GenCx X scope fun Y cd' => PG Y tg (rdG G cd' t)) (hi2 : GenCx X scope fun Y cd' => PI Y tg2 iter2 (RI G cd' P cl it2)) (hg2 : GenCx X scope fun Y cd' => PG Y tg2 (rdG G cd' t2)) (ht : GenCx X scope fun Y cd' => PTs Y ifs2 (RT G cd' P cl c)) (he : GenCx X scope fun Y cd' => PE Y elt (RE G cd' P cl e)) (hs : ∀ x, genFold iter X.env x = pure x) (hs2 : ∀ env x, foldedSetIterable iter2 env x = pure x)
    (hwk : it.weak = true → t.isTup = true) (hwk2 : it2.weak = true → t2.isTup = true) (hv : ∀ i ∈ tgVars t, i ∈ own.map (·.2)) (hv2 : ∀ i ∈ tgVars t2, i ∈ own.map (·.2)) (pins : List (Addr × Obj)) (s : Shared) (σ : L2.St) (H : Hp) (Q : VK) (I : Inv X pins σ H s) (q : RE G cd P cl (.gen2 k (own.map (·.2)) t it t2 it2 c e) σ H Q) :
    wpAny (model X.prog X.w) X.A (eval (.GeneratorExp elt [⟨tg, iter, [], 0⟩, ⟨tg2, iter2, ifs2, 0⟩] scope gpos) X.env) (fun v s' => wpAny (model X.prog X.w) X.A (call f [v]) (EP X pins σ Q) X.xe s') X.xe s := by
  obtain ⟨ρ, σp, h, w, h', sr, wf, ev, g⟩ := q
  obtain ⟨i, h1, accF, z, hF, e1, e2, e3⟩ := gen2_split ev
  obtain ⟨r, hr⟩ := gx.room
  refine thn (gen_made2 hr gx.calm gx.nd gx.code gx.blt gs.co gs.ok gs.nc gs.dot hi hg hi2 hg2 ht he hs hs2 hwk hwk2 hv hv2 I sr wf e1 e2) fun v s' ⟨H1, ρ1, x1, gm⟩ => ?_
  exact con pins σ ρ1 H1 h1 accF z hF v s' w h' Q gm e3 (g.mono x1)
theorem rd_gen2B (con : ConR X G k (.builtin id)) (gx : GXc X G cd) (gs : GSc X scope own) (hgl : Gl X x) (hm : X.mg x = none) (hb : bootBuiltins x = some (.builtin id)) (hn : x ≠ "__name__") (hdb : (x == ("__debug__" : Str)) = false)
    (hi : PI X tg iter (RI G cd P cl it)) (hg : GenCx X scope fun Y cd' => PG Y tg (rdG G cd' t)) (hi2 : GenCx X scope fun Y cd' => PI Y tg2 iter2 (RI G cd' P cl it2)) (hg2 : GenCx X scope fun Y cd' => PG Y tg2 (rdG G cd' t2)) (ht : GenCx X scope fun Y cd' => PTs Y ifs2 (RT G cd' P cl c)) (he : GenCx X scope fun Y cd' => PE Y elt (RE G cd' P cl e)) (hs : ∀ x, genFold iter X.env x = pure x) (hs2 : ∀ env x, foldedSetIterable iter2 env x = pure x)
    (hwk : it.weak = true → t.isTup = true) (hwk2 : it2.weak = true → t2.isTup = true) (hv : ∀ i ∈ tgVars t, i ∈ own.map (·.2)) (hv2 : ∀ i ∈ tgVars t2, i ∈ own.map (·.2)) :
    PE X (.Call (.Name x p) [.GeneratorExp elt [⟨tg, iter, [], 0⟩, ⟨tg2, iter2, ifs2, 0⟩] scope gpos] [] pos) (RE G cd P cl (.gen2 k (own.map (·.2)) t it t2 it2 c e)) := by
  refine ⟨fun pins s σ H Q I q => ?_⟩
  have hst : starEach [.GeneratorExp elt [⟨tg, iter, [], 0⟩, ⟨tg2, iter2, ifs2, 0⟩] scope gpos] X.env = (false, eval (.GeneratorExp elt [⟨tg, iter, [], 0⟩, ⟨tg2, iter2, ifs2, 0⟩] scope gpos) X.env) :: starEach [] X.env := rfl
  refine wpAny_Call_Name_kw (ld_blt I hgl hm hb ?_ hn hdb)
  refine PyProof.Rows.callWith_builtin1 ?_ hst (by rfl)
  rw [hst]
  show wpAny _ _ (spliced ((false, eval (.GeneratorExp elt [⟨tg, iter, [], 0⟩, ⟨tg2, iter2, ifs2, 0⟩] scope gpos) X.env) :: backTo pos (starEach [] X.env))) _ _ s
  exact Calls.spliced_cons (thn (rd_gen2At con gx gs hi hg hi2 hg2 ht he hs hs2 hwk hwk2 hv hv2 pins s σ H Q I q) fun v s' h => Calls.spliced_nil h)
theorem rd_gen2T (con : ConR X G k (.type id)) (gx : GXc X G cd) (gs : GSc X scope own) (hgl : Gl X x) (hm : X.mg x = none) (hb : bootBuiltins x = some (.type id)) (hn : x ≠ "__name__") (hdb : (x == ("__debug__" : Str)) = false)
    (hi : PI X tg iter (RI G cd P cl it)) (hg : GenCx X scope fun Y cd' => PG Y tg (rdG G cd' t)) (hi2 : GenCx X scope fun Y cd' => PI Y tg2 iter2 (RI G cd' P cl it2)) (hg2 : GenCx X scope fun Y cd' => PG Y tg2 (rdG G cd' t2)) (ht : GenCx X scope fun Y cd' => PTs Y ifs2 (RT G cd' P cl c)) (he : GenCx X scope fun Y cd' => PE Y elt (RE G cd' P cl e)) (hs : ∀ x, genFold iter X.env x = pure x) (hs2 : ∀ env x, foldedSetIterable iter2 env x = pure x)
    (hwk : it.weak = true → t.isTup = true) (hwk2 : it2.weak = true → t2.isTup = true) (hv : ∀ i ∈ tgVars t, i ∈ own.map (·.2)) (hv2 : ∀ i ∈ tgVars t2, i ∈ own.map (·.2)) :
    PE X (.Call (.Name x p) [.GeneratorExp elt [⟨tg, iter, [], 0⟩, ⟨tg2, iter2, ifs2, 0⟩] scope gpos] [] pos) (RE G cd P cl (.gen2 k (own.map (·.2)) t it t2 it2 c e)) := by
  refine ⟨fun pins s σ H Q I q => ?_⟩
  have hst : starEach [.GeneratorExp elt [⟨tg, iter, [], 0⟩, ⟨tg2, iter2, ifs2, 0⟩] scope gpos] X.env = (false, eval (.GeneratorExp elt [⟨tg, iter, [], 0⟩, ⟨tg2, iter2, ifs2, 0⟩] scope gpos) X.env) :: starEach [] X.env := rfl
  refine wpAny_Call_Name_kw (ld_blt I hgl hm hb ?_ hn hdb)
  refine PyProof.Rows.callWith_type1 ?_ hst (by rfl)
  rw [hst]
  show wpAny _ _ (spliced ((false, eval (.GeneratorExp elt [⟨tg, iter, [], 0⟩, ⟨tg2, iter2, ifs2, 0⟩] scope gpos) X.env) :: backTo pos (starEach [] X.env))) _ _ s
  exact Calls.spliced_cons (thn (rd_gen2At con gx gs hi hg hi2 hg2 ht he hs hs2 hwk hwk2 hv hv2 pins s σ H Q I q) fun v s' h => Calls.spliced_nil h)
end
end Mi
set_option Elab.async false
set_option linter.all false
set_option maxRecDepth 100000
set_option maxHeartbeats 2000000
/-! Mi S: statements, one by one -/
namespace Mi
open PySem PySem.Spec PyProof.Rows L2

section
variable {X : Cx} {G : Gs} {cd : Option (Addr × Addr)} {P : Pg} {cl : Cl}
abbrev RSs (G : Gs) (cd : Option (Addr × Addr)) (P : Pg) (cl : Cl) (e : S) : TS := rdS G cd (evS P cl e)
theorem GoS.here {ρ : List Addr} {σ : L2.St} {σp : Env1} {H : Hp} {h : AH} {D : Ends} {f : Fl} (g : GoS G cd ρ H h (f, σp) D) (w : Wf G ρ h H) (s : SR G cd ρ H σp σ) : match ((f, σp) : Fl × Env1).1 with | .nx => D.nx σ H | .ct => D.ct σ H | .brk => D.bk σ H | .ret v => ∀ u, Rep G.K ρ H v u → D.rt u H :=
  g σ H ρ Ext.refl w s
theorem rs_nil : PSs X [] (RS G cd P cl .nil) :=
  pss_nil.imp fun D σ H ⟨ρ, σp, h, r, h', sr, wf, ev, g⟩ => by cases ev; exact g.here wf sr
theorem rs_cons {a r : S} {st : Stmt} {rest : List Stmt} (ha : PS X st (RS G cd P cl a)) (hr : PSs X rest (RS G cd P cl r)) : PSs X (st :: rest) (RS G cd P cl (.cons a r)) :=
  (pss_cons ha hr).imp fun D σ H ⟨ρ, σp, h, q, h', sr, wf, ev, g⟩ => by
    have ev : (match evS P cl a σp h with | some ((.nx, σ'), h') => evS P cl r σ' h' | q => q) = some (q, h') := ev
    cases e1 : evS P cl a σp h with
    | none => rw [e1] at ev; cases ev
    | some z =>
      obtain ⟨⟨f, σ1⟩, h1⟩ := z
      rw [e1] at ev
      refine ⟨ρ, σp, h, (f, σ1), h1, sr, wf, e1, fun σ' H' ρ' x w s => ?_⟩
      cases f with
      | nx => exact ⟨ρ', σ1, h1, q, h', s, w, ev, g.mono x⟩
      | ct => cases ev; exact g σ' H' ρ' x w s
      | brk => cases ev; exact g σ' H' ρ' x w s
      | ret v => cases ev; exact g σ' H' ρ' x w s
theorem rs_pass {pos : Pos} : PS X (.Pass pos) (RS G cd P cl .pass) :=
  ps_pass.imp fun D σ H ⟨ρ, σp, h, r, h', sr, wf, ev, g⟩ => by cases ev; exact g.here wf sr
theorem rs_doc {y j pos pos'} : PS X (.Expr (.Constant (.str y) j pos) pos') (RS G cd P cl .pass) :=
  ps_doc.imp fun D σ H ⟨ρ, σp, h, r, h', sr, wf, ev, g⟩ => by cases ev; exact g.here wf sr
theorem rs_brk {pos : Pos} : PS X (.Break pos) (RS G cd P cl .brk) :=
  ps_break.imp fun D σ H ⟨ρ, σp, h, r, h', sr, wf, ev, g⟩ => by cases ev; exact g.here wf sr
theorem rs_cont {pos : Pos} : PS X (.Continue pos) (RS G cd P cl .cont) :=
  ps_continue.imp fun D σ H ⟨ρ, σp, h, r, h', sr, wf, ev, g⟩ => by cases ev; exact g.here wf sr
theorem rs_retN {pos : Pos} : PS X (.Return none pos) (RS G cd P cl .retN) :=
  ps_retN.imp fun D σ H ⟨ρ, σp, h, r, h', sr, wf, ev, g⟩ => by cases ev; exact g.here wf sr _ .non
theorem rs_ret {a : E} {e : Expr} {pos : Pos} (he : PE X e (RE G cd P cl a)) : PS X (.Return (some e) pos) (RS G cd P cl (.ret a)) :=
  (ps_ret he).imp fun D σ H ⟨ρ, σp, h, r, h', sr, wf, ev, g⟩ => by
    have ev : (match evE P cl a σp h with | some (v, h1) => some ((Fl.ret v, σp), h1) | none => none) = some (r, h') := ev
    split at ev
    · rename_i v h1 q
      cases ev
      exact ⟨ρ, σp, h, v, _, sr, wf, q, fun u H1 ρ1 x1 w1 r1 => g σ H1 ρ1 x1 w1 (sr.mono x1) u r1⟩
    · cases ev
theorem rs_expr {a : E} {e : Expr} {pos : Pos} (he : PE X e (RE G cd P cl a)) (hs : swapsWith e none pos.line X.env = pure false) : PS X (.Expr e pos) (RS G cd P cl (.expr a)) :=
  (ps_expr he hs).imp fun D σ H ⟨ρ, σp, h, r, h', sr, wf, ev, g⟩ => by
    have ev : (match evE P cl a σp h with | some (_, h1) => some ((Fl.nx, σp), h1) | none => none) = some (r, h') := ev
    split at ev
    · rename_i v h1 q
      cases ev
      exact ⟨ρ, σp, h, v, _, sr, wf, q, fun u H1 ρ1 x1 w1 r1 => g σ H1 ρ1 x1 w1 (sr.mono x1)⟩
    · cases ev
theorem rs_if {c : E} {a b : S} {ec : Expr} {as bs : List Stmt} {pos : Pos} (hc : PT X ec (RT G cd P cl c)) (ha : PSs X as (RS G cd P cl a)) (hb : PSs X bs (RS G cd P cl b)) : PS X (.If ec as bs pos) (RS G cd P cl (.cond c a b)) :=
  (ps_if hc ha hb).imp fun D σ H ⟨ρ, σp, h, r, h', sr, wf, ev, g⟩ => by
    have ev : (match tst (evE P cl c σp h) with | some (true, h1) => evS P cl a σp h1 | some (false, h1) => evS P cl b σp h1 | none => none) = some (r, h') := ev
    split at ev
    · rename_i h1 q
      exact ⟨ρ, σp, h, true, h1, sr, wf, q, fun H1 ρ1 x1 w1 => by dsimp only; rw [if_pos rfl]; exact ⟨ρ1, σp, h1, r, h', sr.mono x1, w1, ev, g.mono x1⟩⟩
    · rename_i h1 q
      exact ⟨ρ, σp, h, false, h1, sr, wf, q, fun H1 ρ1 x1 w1 => by dsimp only; rw [if_neg (by decide)]; exact ⟨ρ1, σp, h1, r, h', sr.mono x1, w1, ev, g.mono x1⟩⟩
    · cases ev
theorem rs_while {c : E} {b : S} {ec : Expr} {bs : List Stmt} {pos : Pos} (hp : PassesOwn (model X.prog X.w) X.A X.env X.xe) (hc : PT X ec (RT G cd P cl c)) (hb : PSs X bs (RS G cd P cl b)) : PS X (.While ec bs [] pos) (RS G cd P cl (.while_ c b)) :=
  (ps_while hp hc hb).imp fun D σ H ⟨ρ, σp, h, r, h', sr, wf, ev, g⟩ => by
    have ev : whileR (fun σ h => evS P cl b σ h) (fun σ h => tst (evE P cl c σ h)) P.wf σp h = some (r, h') := ev
    refine ⟨fun m σ2' H2 => ∃ ρ2 σ2 h2, Ext ρ ρ2 H H2 ∧ Wf G ρ2 h2 H2 ∧ SR G cd ρ2 H2 σ2 σ2' ∧ whileR (fun σ h => evS P cl b σ h) (fun σ h => tst (evE P cl c σ h)) m σ2 h2 = some (r, h'), ⟨P.wf, ρ, σp, h, Ext.refl, wf, sr, ev⟩, ?_⟩
    rintro m σ2' H2 ⟨ρ2, σ2, h2, x2, w2, s2, e2⟩
    cases m with
    | zero => cases e2
    | succ m =>
      have e2 : (match tst (evE P cl c σ2 h2) with
        | some (true, h1) => match evS P cl b σ2 h1 with
          | some ((.nx, σ'), h2) => whileR (fun σ h => evS P cl b σ h) (fun σ h => tst (evE P cl c σ h)) m σ' h2
          | some ((.ct, σ'), h2) => whileR (fun σ h => evS P cl b σ h) (fun σ h => tst (evE P cl c σ h)) m σ' h2
          | some ((.brk, σ'), h2) => some ((.nx, σ'), h2)
          | some ((.ret v, σ'), h2) => some ((.ret v, σ'), h2)
          | none => none
        | some (false, h1) => some ((.nx, σ2), h1)
        | none => none) = some (r, h') := e2
      split at e2
      · rename_i h3 q
        refine ⟨ρ2, σ2, h2, true, h3, s2, w2, q, fun H3 ρ3 x3 w3 => ?_⟩
        dsimp only
        rw [if_pos rfl]
        refine ⟨fun σ' H' => ∃ ρ2 σ2 h2, Ext ρ ρ2 H H' ∧ Wf G ρ2 h2 H' ∧ SR G cd ρ2 H' σ2 σ' ∧ whileR (fun σ h => evS P cl b σ h) (fun σ h => tst (evE P cl c σ h)) m σ2 h2 = some (r, h'),
          fun σ' H' ⟨ρ2, σ2, h2, a1, a2, a3, a4⟩ => ⟨m, Nat.lt_succ_self _, ρ2, σ2, h2, a1, a2, a3, a4⟩, ?_⟩
        split at e2
        · rename_i σ4 h4 q4
          exact ⟨ρ3, σ2, h3, _, _, s2.mono x3, w3, q4, fun σ' H' ρ' x w s => ⟨ρ', σ4, h4, x2.trans (x3.trans x), w, s, e2⟩⟩
        · rename_i σ4 h4 q4
          exact ⟨ρ3, σ2, h3, _, _, s2.mono x3, w3, q4, fun σ' H' ρ' x w s => ⟨ρ', σ4, h4, x2.trans (x3.trans x), w, s, e2⟩⟩
        · rename_i σ4 h4 q4
          cases e2
          exact ⟨ρ3, σ2, h3, _, _, s2.mono x3, w3, q4, fun σ' H' ρ' x w s => g σ' H' ρ' (x2.trans (x3.trans x)) w s⟩
        · rename_i v σ4 h4 q4
          cases e2
          exact ⟨ρ3, σ2, h3, _, _, s2.mono x3, w3, q4, fun σ' H' ρ' x w s => g σ' H' ρ' (x2.trans (x3.trans x)) w s⟩
        · cases e2
      · rename_i h3 q
        cases e2
        refine ⟨ρ2, σ2, h2, false, h', s2, w2, q, fun H3 ρ3 x3 w3 => ?_⟩
        dsimp only
        rw [if_neg (by decide)]
        exact g σ2' H3 ρ3 (x2.trans x3) w3 (s2.mono x3)
      · cases e2

/-! ### stores -/
theorem asgV_inv {i : Nat} {a : E} {σ : Env1} {h : AH} {r : Fl × Env1} {h' : AH} (ev : evS P cl (.asg (.var i) a) σ h = some (r, h')) : ∃ v, evE P cl a σ h = some (v, h') ∧ r = (.nx, σ.set i (some v)) := by
  unfold evS at ev
  split at ev
  · rename_i v h1 q
    cases ev
    exact ⟨v, q, rfl⟩
  · cases ev
theorem asgT_inv {t a : E} {σ : Env1} {h : AH} {r : Fl × Env1} {h' : AH} (ev : evS P cl (.asg (.tup t) a) σ h = some (r, h')) : ∃ v σ', evE P cl a σ h = some (v, h') ∧ bindP (.tup t) v σ = some σ' ∧ r = (.nx, σ') := by
  unfold evS at ev
  split at ev
  · rename_i v h1 q
    have ev : (match bindP (.tup t) v σ with | some σ' => some ((Fl.nx, σ'), h1) | none => none) = some (r, h') := ev
    split at ev
    · rename_i σ' q2
      cases ev
      exact ⟨v, σ', q, q2, rfl⟩
    · cases ev
  · cases ev
/-- name = e, by what a store rule reads -/
theorem rs_setOf {i : Nat} {a : E} {st : Stmt} (h : PS X st (tAsg (RE G cd P cl a) (gName i))) : PS X st (RS G cd P cl (.asg (.var i) a)) :=
  h.imp fun D σ H ⟨ρ, σp, hp, r, h', sr, wf, ev, g⟩ => by
    obtain ⟨v, e1, rfl⟩ := asgV_inv ev
    exact ⟨ρ, σp, hp, v, h', sr, wf, e1, fun u H1 ρ1 x1 w1 r1 => g _ H1 ρ1 x1 w1 ((sr.mono x1).set r1 i)⟩
theorem rs_setT {t a : E} {tg e : Expr} {pos : Pos} (he : PE X e (RE G cd P cl a)) (hg : PG X tg (rdG G cd (.tup t))) (hs : swapsWithSole [tg] e pos.line X.env = pure false) (hw : swappedStores [tg] e X.env = pure none)
    (h1 : (assignEach [tg] X.env).map (·.2) = [assign tg X.env]) : PS X (.Assign [tg] e pos) (RS G cd P cl (.asg (.tup t) a)) :=
  (ps_asg he hg hs hw h1).imp fun D σ H ⟨ρ, σp, hp, r, h', sr, wf, ev, g⟩ => by
    obtain ⟨v, σ', e1, e2, rfl⟩ := asgT_inv ev
    exact ⟨ρ, σp, hp, v, h', sr, wf, e1, fun u H1 ρ1 x1 w1 r1 => ⟨ρ1, σp, h', v, σ', sr.mono x1, w1, .inl r1, e2, fun σ2 s2 _ => g σ2 H1 ρ1 x1 w1 s2⟩⟩
/-- o[i] = v, by values -/
def rdP (G : Gs) : TSet := fun o i v H Q => ∃ ρ x y z h h', Rep G.K ρ H x o ∧ Rep G.K ρ H y i ∧ Rep G.K ρ H z v ∧ Wf G ρ h H ∧ pset x y z h = some h' ∧ ∀ H' ρ', Ext ρ ρ' H H' → Wf G ρ' h' H' → Q H'
theorem pset_ok (hu : X.A.units + 1 < cLine) : PSet X (rdP G) := by
  intro pins s σ H o i v ov iv u Q I ro ri rv ⟨ρ, x, y, z, h, h', rx, ry, rz, wf, e, g⟩
  cases x with
  | ref l =>
    have e : (match h[l]? with
      | some (.lst xs) => match (generalizing := false) y with
        | .int i => match ixN xs.length i with
          | some j => some (h.set l (.lst (xs.set j z)))
          | none => none
        | _ => none
      | some (.dk kvs) => match keyP y with
        | some k => if kvs.length < SZ then some (h.set l (.dk (putP kvs k z))) else none
        | none => none
      | _ => none) = some h' := e
    obtain ⟨a, rfl, ha⟩ := rep_ref rx
    cases q : h[l]? with
    | none => rw [q] at e; cases e
    | some ob =>
      rw [q] at e
      cases ob with
      | lst xs =>
        cases y with
        | int k =>
          have e : (match ixN xs.length k with | some j => some (h.set l (.lst (xs.set j z))) | none => none) = some h' := e
          cases qj : ixN xs.length k with
          | none => rw [qj] at e; cases e
          | some j =>
            rw [qj] at e; cases e
            obtain rfl := ry.int_of
            obtain ⟨us, h1, h2⟩ := wf.obj _ _ _ q ha
            have hx : Ext ρ ρ H (upd H a (.lst (us.set j v))) := Ext.set ha (by rw [h1]; trivial) (by rw [h1]; simp)
            exact set_list pins s σ H _ _ v ov iv u Q I ro ri rv ⟨a, us, k, j, rfl, rfl, h1, by rw [← h2.length]; exact qj, g _ ρ hx (wf.set ha q rfl rfl ⟨_, upd_same, (Reps.set rz j h2).mono hx⟩)⟩
        | _ => cases e
      | dk kvs =>
        have e : (match keyP y with | some k => if kvs.length < SZ then some (h.set l (.dk (putP kvs k z))) else none | none => none) = some h' := e
        cases qk : keyP y with
        | none => rw [qk] at e; cases e
        | some k =>
          rw [qk] at e
          obtain ⟨hz, e⟩ := ite_some e
          cases e
          obtain ⟨ws, h1, kr⟩ := wf.obj _ _ _ q ha
          have ek : i = kV (keyS k) := by
            cases y with
            | int i => cases qk; exact ry.int_of
            | str t => cases qk; exact ry.str_of
            | _ => cases qk
          subst ek
          have hx : Ext ρ ρ H (upd H a (.dK (putK ws (keyS k) v))) := Ext.set ha (by rw [h1]; trivial) (by rw [h1]; simp)
          exact set_dict hu pins s σ H _ _ v ov iv u Q I ro ri rv ⟨a, _, rfl, DPut.k h1 (by rw [← kr.length, ← SZ_eq]; exact hz), g _ ρ hx (wf.set ha q rfl rfl ⟨_, upd_same, (kr.put rz).mono hx⟩)⟩
      | _ => cases e
  | _ => cases e
theorem asgI_inv {o i a : E} {σ : Env1} {h : AH} {r : Fl × Env1} {h' : AH} (ev : evS P cl (.asg (.idx o i) a) σ h = some (r, h')) : ∃ v h1 ov h2 iv h3, evE P cl a σ h = some (v, h1) ∧ evE P cl o σ h1 = some (ov, h2) ∧ evE P cl i σ h2 = some (iv, h3) ∧ pset ov iv v h3 = some h' ∧ r = (.nx, σ) := by
  unfold evS at ev
  split at ev
  · rename_i v h1 q
    have ev : (match evE P cl o σ h1 with
      | some (ov, h2) => match evE P cl i σ h2 with
        | some (iv, h3) => (pset ov iv v h3).map fun h4 => ((Fl.nx, σ), h4)
        | none => none
      | none => none) = some (r, h') := ev
    split at ev
    · rename_i ov h2 q2
      split at ev
      · rename_i iv h3 q3
        cases q4 : pset ov iv v h3 with
        | none => rw [q4] at ev; cases ev
        | some h4 => rw [q4] at ev; cases ev; exact ⟨v, h1, ov, h2, iv, h3, q, q2, q3, q4, rfl⟩
      · cases ev
    · cases ev
  · cases ev
theorem rs_setI {o i a : E} {eo ei e : Expr} {tpos pos : Pos} (hu : X.A.units + 1 < cLine) (he : PE X e (RE G cd P cl a)) (ho : PE X eo (RE G cd P cl o)) (hi : PE X ei (RE G cd P cl i))
    (ha : ∀ v, assign (.Subscript eo ei tpos) X.env v = (do
      let ov ← holding [v] (eval eo X.env)
      let iv ← holding [v, ov] (eval ei X.env)
      standAt tpos
      holding [v, ov, iv] (setItem ov iv v)
      release [v, ov, iv] [])) (hs : swapsWithSole [.Subscript eo ei tpos] e pos.line X.env = pure false) (hw : swappedStores [.Subscript eo ei tpos] e X.env = pure none) :
    PS X (.Assign [.Subscript eo ei tpos] e pos) (RS G cd P cl (.asg (.idx o i) a)) :=
  (ps_asg he (pg_sub ho hi (pset_ok (G := G) hu) ha) hs hw rfl).imp fun D σ H ⟨ρ, σp, hp, r, h', sr, wf, ev, g⟩ => by
    obtain ⟨v, h1, ov, h2, iv, h3, e1, e2, e3, e4, rfl⟩ := asgI_inv ev
    exact ⟨ρ, σp, hp, v, h1, sr, wf, e1, fun u1 H1 ρ1 x1 w1 r1 => ⟨ρ1, σp, h1, ov, h2, sr.mono x1, w1, e2, fun u2 H2 ρ2 x2 w2 r2 => ⟨ρ2, σp, h2, iv, h3, sr.mono (x1.trans x2), w2, e3, fun u3 H3 ρ3 x3 w3 r3 =>
      ⟨ρ3, ov, iv, v, h3, h', r2.mono x3, r3, (r1.mono x2).mono x3, w3, e4, fun H4 ρ4 x4 w4 => g σ H4 ρ4 (x1.trans (x2.trans (x3.trans x4))) w4 (sr.mono (x1.trans (x2.trans (x3.trans x4))))⟩⟩⟩⟩
theorem aug_inv {i : Nat} {o : BOp} {a : E} {σ : Env1} {h : AH} {r : Fl × Env1} {h' : AH} (ev : evS P cl (.aug i o a) σ h = some (r, h')) : ∃ x y z h1, σ[i]? = some (some x) ∧ evE P cl a σ h = some (y, h1) ∧ paug o x y h1 = some (z, h') ∧ r = (.nx, σ.set i (some z)) := by
  unfold evS at ev
  split at ev
  · rename_i x q
    split at ev
    · rename_i y h1 q2
      split at ev
      · rename_i z h2 q3
        cases ev
        exact ⟨x, y, z, h1, q, q2, q3, rfl⟩
      · cases ev
    · cases ev
  · cases ev
def augOn : BOp → Bool | .add => true | .sub => true | _ => false
theorem paug_ok {o : BOp} (ho : augOn o = true) : PIp X (opOf o) (rd2 G (paug o)) := by
  intro pins s σ H x' y' v u Q I r1 r2 ⟨ρ, x, y, h, z, h', rx, ry, w, e, g⟩
  cases o with
  | add =>
    cases x <;> cases y <;> simp only [paug, reduceCtorEq] at e
    cases e
    exact ip_add pins s σ H x' y' v u Q I r1 r2 ⟨_, _, rx.int_of, ry.int_of, g.here w (.int _)⟩
  | sub =>
    cases x <;> cases y <;> simp only [paug, reduceCtorEq] at e
    cases e
    exact ip_sub pins s σ H x' y' v u Q I r1 r2 ⟨_, _, rx.int_of, ry.int_of, g.here w (.int _)⟩
  | _ => cases ho
theorem rs_aug {i : Nat} {o : BOp} {a : E} {x : Str} {e : Expr} {pos' pos : Pos} (ho : augOn o = true) (hN : X.N.Nodup) (hi : X.N[i]? = some x) (hx : Loc X.env.scope x) (hf : X.fn x = true ∨ X.env.scope.names.lookup x = some .local) (he : PE X e (RE G cd P cl a)) :
    PS X (.AugAssign (.Name x pos') (opOf o) e pos) (RS G cd P cl (.aug i o a)) :=
  (ps_aug hN hi hx he (paug_ok (G := G) ho) hf).imp fun D σ H ⟨ρ, σp, hp, r, h', sr, wf, ev, g⟩ => by
    obtain ⟨x0, y, z, h1, q1, q2, q3, rfl⟩ := aug_inv ev
    obtain ⟨u, hu, ru⟩ := sr.at_ i _ q1
    exact ⟨u, hu, ρ, σp, hp, y, h1, sr, wf, q2, fun u1 H1 ρ1 x1 w1 r1 => ⟨ρ1, x0, y, h1, z, h', ru.mono x1, r1, w1, q3, fun u2 H2 ρ2 x2 w2 r2 => g _ H2 ρ2 (x1.trans x2) w2 ((sr.mono (x1.trans x2)).set r2 i)⟩⟩
end
end Mi
set_option Elab.async false
set_option linter.all false
set_option maxRecDepth 100000
set_option maxHeartbeats 2000000
/-! Mi Q: the look at the text: whether a core term is the model's -/
namespace Mi
open PySem PySem.Spec PyProof.Rows L2

section
variable {X : Cx} {G : Gs} {cd : Option (Addr × Addr)} {P : Pg} {cl : Cl}
theorem ch_inv {a b c : E} {o p : COp} {σ : Env1} {h : AH} {r : PV × AH} (ev : evE P cl (.ch o p a b c) σ h = some r) : ∃ x h1 y h2 k, evE P cl a σ h = some (x, h1) ∧ evE P cl b σ h1 = some (y, h2) ∧ pcmp o x y h2 = some k ∧
    if k = true then ∃ z h3, evE P cl c σ h2 = some (z, h3) ∧ pcmpR p y z h3 = some r else r = (.bl false, h2) := by
  unfold evE at ev
  split at ev
  · rename_i x h1 e1
    split at ev
    · rename_i y h2 e2
      split at ev
      · rename_i e3
        split at ev
        · rename_i z h3 e4
          exact ⟨x, h1, y, h2, true, e1, e2, e3, by rw [if_pos rfl]; exact ⟨z, h3, e4, ev⟩⟩
        · cases ev
      · rename_i e3
        cases ev
        exact ⟨x, h1, y, h2, false, e1, e2, e3, by rw [if_neg (by decide)]⟩
      · cases ev
    · cases ev
  · cases ev
theorem ch_imp {a b c : E} {o p : COp} {σ : L2.St} {H : Hp} {Q : VK} (q : RE G cd P cl (.ch o p a b c) σ H Q) : tChain (rd2 G (pcmpR o)) (rd2 G (pcmpR p)) (RE G cd P cl a) (RE G cd P cl b) (RE G cd P cl c) σ H Q := by
  obtain ⟨ρ, σp, h, w, h', sr, wf, ev, g⟩ := q
  obtain ⟨x, h1, y, h2, k, e1, e2, e3, e4⟩ := ch_inv ev
  refine ⟨ρ, σp, h, x, h1, sr, wf, e1, fun u1 H1 ρ1 x1 w1 r1 => ⟨ρ1, σp, h1, y, h2, sr.mono x1, w1, e2, fun u2 H2 ρ2 x2 w2 r2 => ⟨ρ2, x, y, h2, .bl k, h2, r1.mono x2, r2, w2, ?_, fun u3 H3 ρ3 x3 w3 r3 => ⟨k, r3.bl_of, ?_⟩⟩⟩⟩
  · show (pcmp o x y h2).map _ = _; rw [e3]; rfl
  · cases k with
    | true =>
      rw [if_pos rfl] at e4 ⊢
      obtain ⟨z, h3, e5, e6⟩ := e4
      exact ⟨ρ3, σp, h2, z, h3, sr.mono (x1.trans (x2.trans x3)), w3, e5, fun u4 H4 ρ4 x4 w4 r4 => ⟨ρ4, y, z, h3, w, h', (r2.mono x3).mono x4, r4, w4, e6, g.mono (x1.trans (x2.trans (x3.trans x4)))⟩⟩
    | false =>
      rw [if_neg (by decide)] at e4 ⊢
      cases e4
      exact (g.mono (x1.trans (x2.trans x3))).here w3 (.bl _)
theorem rd_ch {a b c : E} {o p : COp} {ea eb ec : Expr} {pos} (hK : X.K = G.K) (hm : lastMarks [cmpOf o, cmpOf p] [eb, ec] = false) (ha : PE X ea (RE G cd P cl a)) (hb : PE X eb (RE G cd P cl b)) (hc : PE X ec (RE G cd P cl c)) : PE X (.Compare ea [cmpOf o, cmpOf p] [eb, ec] pos) (RE G cd P cl (.ch o p a b c)) :=
  (pe_chain (cmp_ok o hK) (cmp_ok p hK) ha hb hc hm).imp fun σ H Q q => ch_imp q
theorem rt_ch {a b c : E} {o p : COp} {ea eb ec : Expr} {pos} (hK : X.K = G.K) (hm : lastMarks [cmpOf o, cmpOf p] [eb, ec] = false) (ha : PE X ea (RE G cd P cl a)) (hb : PE X eb (RE G cd P cl b)) (hc : PE X ec (RE G cd P cl c)) : PT X (.Compare ea [cmpOf o, cmpOf p] [eb, ec] pos) (RT G cd P cl (.ch o p a b c)) :=
  (pt_chain (cmp_ok o hK) (cmp_ok p hK) ha hb hc hm).imp fun σ H Q ⟨ρ, σp, h, d, h', sr, wf, ev, g⟩ => by
    obtain ⟨v, ev, tv⟩ := tst_some ev
    refine ch_imp (Q := fun x H' => ∃ k, x = .bl k ∧ Q k H') ⟨ρ, σp, h, v, h', sr, wf, ev, fun u H1 ρ1 x1 w1 r1 => ?_⟩
    obtain ⟨x, h1, y, h2, k, e1, e2, e3, e4⟩ := ch_inv ev
    have key : ∃ b, v = .bl b := by
      cases k with
      | true =>
        rw [if_pos rfl] at e4
        obtain ⟨z, h3, e5, e6⟩ := e4
        obtain ⟨b, rfl, _⟩ := pcmpR_bl e6
        exact ⟨b, rfl⟩
      | false =>
        rw [if_neg (by decide)] at e4
        cases e4; exact ⟨false, rfl⟩
    obtain ⟨b, rfl⟩ := key
    cases tv
    exact ⟨d, r1.bl_of, g H1 ρ1 x1 w1⟩
theorem _root_.L2.PW.toPT {e : Expr} {t : TT} (p : PW X e t) : PT X e t := ⟨fun pins s σ H Q I q => p.run _ pins s σ H Q I q⟩
theorem _root_.L2.PW.imp {e : Expr} {t t' : TT} (p : PW X e t) (h : ∀ σ H Q, t' σ H Q → t σ H Q) : PW X e t' := ⟨fun wh pins s σ H Q I q => p.run wh pins s σ H Q I (h σ H Q q)⟩
end

/-! ### shapes -/
def noStar : Expr → Bool | .Starred .. => false | _ => true
def noSet : Expr → Bool | .Set .. => false | _ => true
def noLst : Expr → Bool | .Set .. => false | .List .. => false | _ => true
def noComp : Expr → Bool | .ListComp .. => false | .SetComp .. => false | .DictComp .. => false | _ => true
def noSl : Expr → Bool | .Slice .. => false | .Tuple .. => false | _ => true
def noSup : Expr → Bool | .Call (.Name x _) [] [] _ => !decide (x = ("super" : Str)) | _ => true
theorem folded_ok {e : Expr} {env : Env} (h : noSet e = true) : ∀ x, foldedSetIterable e env x = pure x := by
  intro x
  cases e <;> first | rfl | cases h
theorem gfold_ok {e : Expr} {env : Env} (h : noLst e = true) : ∀ x, genFold e env x = pure x := by
  intro x
  cases e <;> first | rfl | cases h
theorem behind_ok {op : CmpOp} {e : Expr} (h : noSet e = true) : behindInMarks op e = false := by
  cases e <;> first | rfl | cases h
theorem star_ok {e : Expr} {es : List Expr} {env : Env} (h : noStar e = true) : starEach (e :: es) env = (false, eval e env) :: starEach es env := by
  cases e <;> first | rfl | cases h
theorem stars_ok : ∀ {es : List Expr} {env : Env} {pos : Pos}, es.all noStar = true → (backTo pos (starEach es env)).any (·.1) = false
  | [], _, _, _ => rfl
  | e :: es, env, pos, h => by
    rw [List.all_cons, Bool.and_eq_true] at h
    have ih := stars_ok (es := es) (env := env) (pos := pos) h.2
    rw [star_ok h.1]
    show (false || (backTo pos (starEach es env)).any (·.1)) = false
    rw [ih]; rfl
theorem stars_all : ∀ {es : List Expr} {env : Env} {pos : Pos}, es.all noStar = true → (backTo pos (starEach es env)).all (fun x => !x.1) = true
  | [], _, _, _ => rfl
  | e :: es, env, pos, h => by
    rw [List.all_cons, Bool.and_eq_true] at h
    have ih := stars_all (es := es) (env := env) (pos := pos) h.2
    rw [star_ok h.1]
    show (true && (backTo pos (starEach es env)).all (fun x => !x.1)) = true
    rw [ih]; rfl
theorem asg_ok {e : Expr} {es : List Expr} {env : Env} (h : noStar e = true) : assignEach (e :: es) env = (false, assign e env) :: assignEach es env := by
  cases e <;> first | rfl | cases h
theorem asgs_len : ∀ {es : List Expr} {env : Env}, es.all noStar = true → (assignEach es env).length = es.length
  | [], _, _ => rfl
  | e :: es, env, h => by
    rw [List.all_cons, Bool.and_eq_true] at h
    rw [asg_ok h.1, List.length_cons, List.length_cons, asgs_len h.2]
theorem asgs_find : ∀ {es : List Expr} {env : Env}, es.all noStar = true → (assignEach es env).findIdx? (·.1) = none
  | [], _, _ => rfl
  | e :: es, env, h => by
    rw [List.all_cons, Bool.and_eq_true] at h
    rw [asg_ok h.1, List.findIdx?_cons, asgs_find h.2]
    rfl
theorem sw_ok {e : Expr} {t : Option Expr} {l : Nat} {env : Env} (h : noComp e = true) : swapsWith e t l env = pure false := by
  cases e <;> first | rfl | cases h
theorem base_ok {e : Expr} {nm : Str} {env : Env} (h : noSup e = true) : attributeBase e nm env (eval e env) = eval e env := by
  unfold attributeBase
  split
  · rename_i x _ _
    have h : (!decide (x = ("super" : Str))) = true := h
    have e1 : (x != ("super" : Str)) = true := by
      rw [Bool.not_eq_true', decide_eq_false_iff_not] at h
      simpa using h
    rw [e1]
    rfl
  · rfl
theorem ix_plain {e : Expr} (h : noSl e = true) : PlainIx e := by
  intro o i
  cases e <;> first | rfl | cases h
theorem last_ok {o p : CmpOp} {b c : Expr} (h : noSet c = true) : lastMarks [o, p] [b, c] = false := by
  show behindInMarks p c = false
  exact behind_ok h
end Mi
set_option Elab.async false
set_option linter.all false
set_option maxRecDepth 100000
set_option maxHeartbeats 2000000
/-! Mi R: the look, and what it is good for -/
namespace Mi
open PySem PySem.Spec PyProof.Rows L2

structure SC where
  N : List Str
  sc : Scope
  fs : List (Str × Nat × Nat)
  gs : List (Str × Nat)
  bs : List Str
  d : Nat
def SC.vis (c : SC) (x : Str) : Bool := match c.sc.names.lookup x with
  | some .local => true | some .cell => true | some .free => true | _ => false
def SC.loc (c : SC) (x : Str) : Bool := match c.sc.names.lookup x with
  | some .local => true | some .cell => true | _ => false
def SC.gl (c : SC) (x : Str) : Bool := match c.sc.names.lookup x with
  | some .globalImplicit => true | _ => false
def okNm (x : Str) : Bool := !decide (x = ("__debug__" : Str)) && !decide (x = ("__classdict__" : Str)) && !decide (x = ("__name__" : Str))
/-- a built-in's name, free here -/
def SC.blt (c : SC) (x nm : Str) : Bool := decide (x = nm) && c.gl x && c.bs.contains x
def Bi.nm : Bi → Str
  | .len => "len" | .tuple => "tuple" | .list => "list" | .int => "int" | .str => "str" | .abs => "abs" | .max2 => "max" | .min2 => "min" | .sum => "sum" | .sorted => "sorted" | .dict => "dict" | .set => "sorted" | .bool => "bool"
  | .isInt => "isinstance" | .isBool => "isinstance" | .isStr => "isinstance" | .isTup => "isinstance"
/-- those that are looked at here -/
inductive BK where | fn | ty | is (t : Is4) | ss | no
def Bi.kd : Bi → BK
  | .len => .fn | .sorted => .fn
  | .tuple => .ty | .list => .ty | .int => .ty | .str => .ty | .dict => .ty
  | .isInt => .is .int | .isBool => .is .bool | .isStr => .is .str | .isTup => .is .tup
  | .set => .ss
  | _ => .no
def Mt.nm : Mt → Str
  | .append => "append" | .get => "get" | _ => ""
def Mt.on : Mt → Bool | .append => true | .get => true | _ => false
/-- the consumers -/
def Gc.nm : Gc → Str | .tuple => "tuple" | .all => "all" | .any => "any" | .sorted => "sorted" | _ => ""
def Gc.on : Gc → Bool | .tuple => true | .all => true | .any => true | .sorted => true | _ => false
def ownOf (N : List Str) (sc : Scope) : List (Str × Nat) := sc.names.filterMap fun y => match y.2 with
  | .local => if decide (y.1 ∈ N) then some (y.1, N.idxOf y.1) else none
  | .cell => if decide (y.1 ∈ N) then some (y.1, N.idxOf y.1) else none
  | _ => none
def SC.blk (c : SC) (sc : Scope) : SC := { c with sc := sc }
def SC.gen (c : SC) (sc : Scope) (d : Nat) : SC := { c with sc := sc, d := d }
/-- a comprehension's scope -/
def blkOn (c : SC) (own : List Nat) (sc : Scope) : Bool := decide (own = (ownOf c.N sc).map (·.2)) && blkC c.N c.sc sc (ownOf c.N sc)
def genOn (c : SC) (own : List Nat) (sc : Scope) : Bool := blkOn c own sc && !sc.isCoroutine && sc.names.all (fun y => !decide (y.2 = .cell)) && decide (sc.names.lookup (".0" : Str) = some NameKind.local)

mutual
def chkG : E → SC → Expr → Bool
  | .var i => fun c x => match x with
    | .Name x _ => decide (c.N[i]? = some x) && c.loc x
    | _ => false
  | .tup a => fun c x => match x with
    | .Tuple es _ _ => es.all noStar && chkGs a c es
    | _ => false
  | _ => fun _ _ => false
def chkGs : E → SC → List Expr → Bool
  | .nil => fun _ es => es.isEmpty
  | .cons a r => fun c es => match es with
    | e :: es => chkG a c e && chkGs r c es
    | _ => false
  | _ => fun _ _ => false
end
def wkOk (it t : E) : Bool := !it.weak || t.isTup
def inOwn (t : E) (own : List Nat) : Bool := (tgVars t).all fun i => own.contains i
/-- the looks at a term: as an expression, as a list, as what is walked -/
structure Ck where
  e : SC → Expr → Bool
  l : SC → List Expr → Bool
  i : SC → Expr → Expr → Bool
def Ck.no : Ck := ⟨fun _ _ => false, fun _ _ => false, fun _ _ _ => false⟩
def Ck.ofE (f : SC → Expr → Bool) : Ck := ⟨f, fun _ _ => false, fun _ _ _ => false⟩
def Ck.ofL (f : SC → List Expr → Bool) : Ck := ⟨fun _ _ => false, f, fun _ _ _ => false⟩
def Ck.ofI (f : SC → Expr → Expr → Bool) : Ck := ⟨fun _ _ => false, fun _ _ => false, f⟩
def ckVar (i : Nat) : SC → Expr → Bool := fun c x => match x with
  | .Name x _ => decide (c.N[i]? = some x) && c.vis x && okNm x
  | _ => false
def ckNon : SC → Expr → Bool := fun _ x => match x with | .Constant .none _ _ => true | _ => false
def ckBl (b : Bool) : SC → Expr → Bool := fun _ x => match x with | .Constant (.bool b') _ _ => decide (b = b') | _ => false
def ckInt (i : Int) : SC → Expr → Bool := fun _ x => match x with | .Constant (.int i') _ _ => decide (i = i') | _ => false
def ckStr (s : Sg) : SC → Expr → Bool := fun _ x => match x with | .Constant (.str t) _ _ => decide (toS s = t) | _ => false
def ckGv (g : Nat) : SC → Expr → Bool := fun c x => match x with
  | .Name x _ => c.gl x && okNm x && decide (c.gs.lookup x = some g)
  | _ => false
def ckTup (a : Ck) : SC → Expr → Bool := fun c x => match x with | .Tuple es _ _ => a.l c es | _ => false
def ckLst (a : Ck) : SC → Expr → Bool := fun c x => match x with | .List es _ => a.l c es | _ => false
def ckBin (o : BOp) (a b : Ck) : SC → Expr → Bool := fun c x => match x with | .BinOp l p r _ => decide (p = opOf o) && a.e c l && b.e c r | _ => false
def ckNeg (a : Ck) : SC → Expr → Bool := fun c x => match x with | .UnaryOp .USub l _ => a.e c l | _ => false
def ckCmp (o : COp) (a b : Ck) : SC → Expr → Bool := fun c x => match x with | .Compare l [p] [r] _ => decide (p = cmpOf o) && noSet r && a.e c l && b.e c r | _ => false
def ckCh (o p : COp) (a b d : Ck) : SC → Expr → Bool := fun c x => match x with
  | .Compare l [o', p'] [r, r2] _ => decide (o' = cmpOf o) && decide (p' = cmpOf p) && noSet r2 && a.e c l && b.e c r && d.e c r2
  | _ => false
def ckAnd (a b : Ck) : SC → Expr → Bool := fun c x => match x with
  | .BoolOp .And (l :: m :: r) p => a.e c l && (match r with | [] => b.e c m | n :: r => b.e c (.BoolOp .And (m :: n :: r) p))
  | _ => false
def ckOr (a b : Ck) : SC → Expr → Bool := fun c x => match x with
  | .BoolOp .Or (l :: m :: r) p => a.e c l && (match r with | [] => b.e c m | n :: r => b.e c (.BoolOp .Or (m :: n :: r) p))
  | _ => false
def ckNot (a : Ck) : SC → Expr → Bool := fun c x => match x with | .UnaryOp .Not l _ => a.e c l | _ => false
def ckIte (q a b : Ck) : SC → Expr → Bool := fun c x => match x with | .IfExp t l r _ => q.e c t && a.e c l && b.e c r | _ => false
def ckIdx (a i : Ck) : SC → Expr → Bool := fun c x => match x with | .Subscript l r _ => noSl r && a.e c l && i.e c r | _ => false
def E.isNon : E → Bool | .non => true | _ => false
def E.is1 : E → Bool | .cons _ .nil => true | _ => false
def E.is2 : E → Bool | .cons _ (.cons _ .nil) => true | _ => false
def E.isT : E → Bool | .bl true => true | _ => false
def ckO (lo : E) (k : Ck) (c : SC) : Option Expr → Bool
  | none => lo.isNon
  | some u => !lo.isNon && k.e c u
def ckSl (a : Ck) (lo : E) (klo : Ck) (hi : E) (khi : Ck) : SC → Expr → Bool := fun c x => match x with
  | .Subscript l (.Slice u v none _) _ => a.e c l && ckO lo klo c u && ckO hi khi c v
  | _ => false
def ckCall (f : Nat) (a : Ck) : SC → Expr → Bool := fun c x => match x with
  | .Call (.Name x _) es [] _ => c.gl x && okNm x && decide ((c.fs.lookup x).map (·.1) = some f) && a.l c es
  | _ => false
def ckBi (b : Bi) (ea : E) (a : Ck) : SC → Expr → Bool := fun c x => match x with
  | .Call (.Name x _) es [] _ => c.blt x b.nm && (match b.kd with
    | .fn => !es.isEmpty && a.l c es
    | .ty => !es.isEmpty && a.l c es
    | .is t => (match es with
      | [e, .Name y _] => c.blt y (Str.ofString t.nm) && ea.is1 && a.l c [e]
      | _ => false)
    | .ss => (match es with
      | [.Call (.Name y _) [e] [] _] => c.blt y "set" && a.l c [e]
      | _ => false)
    | .no => false)
  | _ => false
def ckMt (m : Mt) (o a : Ck) : SC → Expr → Bool := fun c x => match x with
  | .Call (.Attribute l y p) es [] q => m.on && decide (y = m.nm) && noSup l && (p.endLine == q.line) && !es.isEmpty && decide (es.length < 30) && o.e c l && a.l c es
  | _ => false
/-- the tests of a clause -/
def ckIfs (q : E) (kq : Ck) (c : SC) : List Expr → Bool
  | [] => q.isT
  | [i] => kq.e c i
  | _ => false
def ckLc (own : List Nat) (t it : E) (kit : Ck) (q : E) (kq ke : Ck) : SC → Expr → Bool := fun c x => match x with
  | .ListComp elt [⟨tg, iter, ifs, 0⟩] sc _ => blkOn c own sc && wkOk it t && inOwn t own && noSet iter && kit.i c tg iter && chkG t (c.blk sc) tg && ke.e (c.blk sc) elt && ckIfs q kq (c.blk sc) ifs
  | _ => false
def ckLc2 (own : List Nat) (t it : E) (kit : Ck) (t2 it2 : E) (kit2 : Ck) (q : E) (kq ke : Ck) : SC → Expr → Bool := fun c x => match x with
  | .ListComp elt [⟨tg, iter, [], 0⟩, ⟨tg2, iter2, ifs, 0⟩] sc _ => blkOn c own sc && wkOk it t && wkOk it2 t2 && inOwn t own && inOwn t2 own && noSet iter && noSet iter2 && kit.i c tg iter && chkG t (c.blk sc) tg && kit2.i (c.blk sc) tg2 iter2 && chkG t2 (c.blk sc) tg2 && ke.e (c.blk sc) elt && ckIfs q kq (c.blk sc) ifs
  | _ => false
def ckGen (k : Gc) (own : List Nat) (t it : E) (kit : Ck) (q : E) (kq ke : Ck) : SC → Expr → Bool := fun c x => match x with
  | .Call (.Name x _) [.GeneratorExp elt [⟨tg, iter, ifs, 0⟩] sc _] [] _ => (match c.d with
    | 0 => false
    | d + 1 => k.on && c.blt x k.nm && genOn c own sc && wkOk it t && inOwn t own && noLst iter && kit.i c tg iter && chkG t (c.gen sc d) tg && ke.e (c.gen sc d) elt && ckIfs q kq (c.gen sc d) ifs)
  | _ => false
def ckGen2 (k : Gc) (own : List Nat) (t it : E) (kit : Ck) (t2 it2 : E) (kit2 : Ck) (q : E) (kq ke : Ck) : SC → Expr → Bool := fun c x => match x with
  | .Call (.Name x _) [.GeneratorExp elt [⟨tg, iter, [], 0⟩, ⟨tg2, iter2, ifs, 0⟩] sc _] [] _ => (match c.d with
    | 0 => false
    | d + 1 => k.on && c.blt x k.nm && genOn c own sc && wkOk it t && wkOk it2 t2 && inOwn t own && inOwn t2 own && noLst iter && noSet iter2 && kit.i c tg iter && chkG t (c.gen sc d) tg && kit2.i (c.gen sc d) tg2 iter2 && chkG t2 (c.gen sc d) tg2 && ke.e (c.gen sc d) elt && ckIfs q kq (c.gen sc d) ifs)
  | _ => false
def ckNil : SC → List Expr → Bool := fun _ es => es.isEmpty
def ckCons (a r : Ck) : SC → List Expr → Bool := fun c es => match es with
  | e :: es => noStar e && a.e c e && r.l c es
  | _ => false
def ckItr (a : Ck) : SC → Expr → Expr → Bool := fun c _ x => a.e c x
def ckRange (ea : E) (a : Ck) : SC → Expr → Expr → Bool := fun c _ x => match x with
  | .Call (.Name r _) es [] _ => c.blt r "range" && (match es with
    | [e] => ea.is1 && a.l c [e]
    | [e, e2] => ea.is2 && a.l c [e, e2]
    | _ => false)
  | _ => false
def ckEnum (a : Ck) : SC → Expr → Expr → Bool := fun c tg x => match tg, x with
  | .Tuple _ _ _, .Call (.Name r _) [e] [] _ => c.blt r "enumerate" && noStar e && a.e c e
  | _, _ => false
def ckZip (a : Ck) : SC → Expr → Expr → Bool := fun c tg x => match tg, x with
  | .Tuple _ _ _, .Call (.Name r _) [e, e2] [] _ => c.blt r "zip" && a.l c [e, e2]
  | _, _ => false
def chk : E → Ck
  | .var i => .ofE (ckVar i)
  | .non => .ofE ckNon
  | .bl b => .ofE (ckBl b)
  | .int i => .ofE (ckInt i)
  | .str s => .ofE (ckStr s)
  | .gv g => .ofE (ckGv g)
  | .nil => .ofL ckNil
  | .cons a r => .ofL (ckCons (chk a) (chk r))
  | .tup a => .ofE (ckTup (chk a))
  | .lst a => .ofE (ckLst (chk a))
  | .bin o a b => .ofE (ckBin o (chk a) (chk b))
  | .neg a => .ofE (ckNeg (chk a))
  | .cmp o a b => .ofE (ckCmp o (chk a) (chk b))
  | .ch o p a b d => .ofE (ckCh o p (chk a) (chk b) (chk d))
  | .and a b => .ofE (ckAnd (chk a) (chk b))
  | .or a b => .ofE (ckOr (chk a) (chk b))
  | .not a => .ofE (ckNot (chk a))
  | .ite q a b => .ofE (ckIte (chk q) (chk a) (chk b))
  | .idx a i => .ofE (ckIdx (chk a) (chk i))
  | .sl a lo hi => .ofE (ckSl (chk a) lo (chk lo) hi (chk hi))
  | .call f a => .ofE (ckCall f (chk a))
  | .bi b a => .ofE (ckBi b a (chk a))
  | .mt m o a => .ofE (ckMt m (chk o) (chk a))
  | .lc own t it q e => .ofE (ckLc own t it (chk it) q (chk q) (chk e))
  | .lc2 own t it t2 it2 q e => .ofE (ckLc2 own t it (chk it) t2 it2 (chk it2) q (chk q) (chk e))
  | .gen k own t it q e => .ofE (ckGen k own t it (chk it) q (chk q) (chk e))
  | .gen2 k own t it t2 it2 q e => .ofE (ckGen2 k own t it (chk it) t2 it2 (chk it2) q (chk q) (chk e))
  | .itr e => .ofI (ckItr (chk e))
  | .range a => .ofI (ckRange a (chk a))
  | .enum a => .ofI (ckEnum (chk a))
  | .zip a => .ofI (ckZip (chk a))
  | _ => .no
termination_by structural e => e
abbrev chkE (a : E) : SC → Expr → Bool := (chk a).e
abbrev chkL (a : E) : SC → List Expr → Bool := (chk a).l
abbrev chkI (a : E) : SC → Expr → Expr → Bool := (chk a).i

/-- a context that a look serves -/
structure Okx (X : Cx) (G : Gs) (P : Pg) (cl : Cl) (k : Nat) (c : SC) (cd : Option (Addr × Addr)) : Prop where
  K : X.K = G.K
  N : X.N = c.N
  nd : X.N.Nodup
  calm : X.calm = true
  rel : ∀ x kd, c.sc.names.lookup x = some kd → ∃ kd', X.env.scope.names.lookup x = some kd' ∧ (kd' = kd ∨ (kd = .free ∧ kd' = .cell))
  fn : ∀ x, c.sc.names.lookup x = some .cell → X.fn x = true
  room : Room (k + c.d) X.A
  xe : X.xe = fun _ _ => False
  bs : ∀ x, c.bs.contains x = true → X.mg x = none
  fs : ∀ x f ar, c.fs.lookup x = some (f, ar) → ∃ fa fd ps, X.mg x = some (.ref fa) ∧ PySem.W.keepIn X.K (.ref fa) = true ∧ Binds X.K fd ps [] ∧ FnOk X.prog X.w X.K X.mg X.base CX0 k fa fd ps (spF G ar (cl f)) ∧ ∀ xs h r, cl f xs h = some r → xs.length = ar
  gs : ∀ x g, c.gs.lookup x = some g → ∃ pv v u, P.consts[g]? = some pv ∧ X.mg x = some u ∧ RelV v u ∧ ∀ ρ H, Rep G.K ρ H pv v
  code : CodeOk X G cd
  blt : ∃ P0, X.base.BuiltinsAt X.mg P0
section
variable {X : Cx} {G : Gs} {P : Pg} {cl : Cl} {k : Nat} {c : SC} {cd : Option (Addr × Addr)}
theorem Okx.visX (o : Okx X G P cl k c cd) {x : Str} (h : c.vis x = true) : Vis X.env.scope x := by
  unfold SC.vis at h
  split at h
  · rename_i e
    obtain ⟨k', h1, h2 | ⟨h2, _⟩⟩ := o.rel _ _ e
    · subst h2; exact .inl h1
    · cases h2
  · rename_i e
    obtain ⟨k', h1, h2 | ⟨h2, _⟩⟩ := o.rel _ _ e
    · subst h2; exact .inr (.inl h1)
    · cases h2
  · rename_i e
    obtain ⟨k', h1, h2 | ⟨_, h2⟩⟩ := o.rel _ _ e
    · subst h2; exact .inr (.inr h1)
    · subst h2; exact .inr (.inl h1)
  · cases h
theorem Okx.glX (o : Okx X G P cl k c cd) {x : Str} (h : c.gl x = true) : Gl X x := by
  unfold SC.gl at h
  split at h
  · rename_i e
    obtain ⟨k', h1, h2 | ⟨h2, _⟩⟩ := o.rel _ _ e
    · subst h2; exact h1
    · cases h2
  · cases h
theorem Okx.locX (o : Okx X G P cl k c cd) {x : Str} (h : c.loc x = true) : Loc X.env.scope x ∧ (X.fn x = true ∨ X.env.scope.names.lookup x = some .local) := by
  unfold SC.loc at h
  split at h
  · rename_i e
    obtain ⟨k', h1, h2 | ⟨h2, _⟩⟩ := o.rel _ _ e
    · subst h2; exact ⟨.inl h1, .inr h1⟩
    · cases h2
  · rename_i e
    obtain ⟨k', h1, h2 | ⟨h2, _⟩⟩ := o.rel _ _ e
    · subst h2; exact ⟨.inr h1, .inl (o.fn _ e)⟩
    · cases h2
  · cases h
theorem nm_ok {x : Str} (h : okNm x = true) : (x == ("__debug__" : Str)) = false ∧ (x == ("__classdict__" : Str)) = false ∧ x ≠ "__name__" := by
  unfold okNm at h
  simp only [Bool.and_eq_true, Bool.not_eq_true', decide_eq_false_iff_not] at h
  exact ⟨by simpa using h.1.1, by simpa using h.1.2, h.2⟩
theorem Okx.bltX (o : Okx X G P cl k c cd) {x nm : Str} (h : c.blt x nm = true) : x = nm ∧ Gl X x ∧ X.mg x = none := by
  unfold SC.blt at h
  simp only [Bool.and_eq_true, decide_eq_true_eq] at h
  exact ⟨h.1.1, o.glX h.1.2, o.bs x h.2⟩
theorem Okx.blkX (o : Okx X G P cl k c cd) {own : List Nat} {sc : Scope} (h : blkOn c own sc = true) : BlkOk X.N X.env.scope sc (ownOf c.N sc) ∧ own = (ownOf c.N sc).map (·.2) := by
  unfold blkOn at h
  simp only [Bool.and_eq_true, decide_eq_true_eq] at h
  have b := blkOk_by h.2
  rw [o.N]
  refine ⟨⟨b.kind, b.uniq, b.ix, fun y hy e => ?_, b.own⟩, h.1⟩
  rcases b.free y hy e with z | z
  · obtain ⟨k', h1, h2 | ⟨h2, _⟩⟩ := o.rel _ _ z
    · subst h2; exact .inl h1
    · cases h2
  · obtain ⟨k', h1, h2 | ⟨_, h2⟩⟩ := o.rel _ _ z
    · subst h2; exact .inr h1
    · subst h2; exact .inl h1
theorem rel_relS {sc : Scope} : ∀ {names : List (Str × NameKind)} {x : Str} {kd : NameKind}, names.lookup x = some kd →
    ∃ kd', (names.map fun (n, k) => if (k == NameKind.free && sc.kind == .function && sc.names.lookup n == some .cell) then (n, NameKind.cell) else (n, k)).lookup x = some kd' ∧ (kd' = kd ∨ (kd = .free ∧ kd' = .cell))
  | [], _, _, h => by simp at h
  | (n, k₀) :: r, x, kd, h => by
    have ih := @rel_relS sc r x kd
    show ∃ kd', List.lookup x ((if (k₀ == NameKind.free && sc.kind == .function && sc.names.lookup n == some .cell) = true then (n, NameKind.cell) else (n, k₀)) :: (r.map _)) = some kd' ∧ _
    cases hx : x == n with
    | true =>
      simp only [List.lookup_cons, hx] at h
      cases h
      by_cases hc : (k₀ == NameKind.free && sc.kind == .function && sc.names.lookup n == some .cell) = true
      · rw [if_pos hc]
        simp only [List.lookup_cons, hx]
        simp only [Bool.and_eq_true, beq_iff_eq] at hc
        exact ⟨_, rfl, .inr ⟨hc.1.1, rfl⟩⟩
      · rw [if_neg hc]
        simp only [List.lookup_cons, hx]
        exact ⟨_, rfl, .inl rfl⟩
    | false =>
      simp only [List.lookup_cons, hx] at h
      by_cases hc : (k₀ == NameKind.free && sc.kind == .function && sc.names.lookup n == some .cell) = true
      · rw [if_pos hc]; simp only [List.lookup_cons, hx]; exact ih h
      · rw [if_neg hc]; simp only [List.lookup_cons, hx]; exact ih h
/-- within a list comprehension -/
theorem Okx.blk (o : Okx X G P cl k c cd) {sc : Scope} (s : Shared) (H : Hp) (C : Addr) (cs : List (Str × Addr)) (fp : List Addr) : Okx (X.blk s H sc (compEnvC sc cs C X.env) fp) G P cl k (c.blk sc) cd where
  K := o.K
  N := o.N
  nd := o.nd
  calm := o.calm
  rel := fun x kd h => rel_relS h
  fn := fun x h => by have h : sc.names.lookup x = some .cell := h; show (sc.names.lookup x == some .cell) = true; rw [h]; rfl
  room := o.room
  xe := rfl
  bs := o.bs
  fs := o.fs
  gs := o.gs
  code := o.code
  blt := o.blt
/-- within a generator expression -/
theorem Okx.gen (o : Okx X G P cl k c cd) {sc : Scope} {d : Nat} (hd : c.d = d + 1) : GenCx X sc fun Y cd' => Okx Y G P cl k (c.gen sc d) cd' := fun s H cenv fp A c' P' hs hc hr => {
  K := o.K
  N := o.N
  nd := o.nd
  calm := o.calm
  rel := fun x kd h => ⟨kd, by show cenv.scope.names.lookup x = _; rw [hs]; exact h, .inl rfl⟩
  fn := fun x h => by have h : sc.names.lookup x = some .cell := h; show (sc.names.lookup x == some .cell) = true; rw [h]; rfl
  room := hr _ (by have := o.room; rw [hd] at this; exact this)
  xe := rfl
  bs := o.bs
  fs := o.fs
  gs := o.gs
  code := ⟨c', P', hc, .inr rfl⟩
  blt := o.blt }
end
end Mi
set_option Elab.async false
set_option linter.all false
set_option maxRecDepth 100000
set_option maxHeartbeats 4000000
/-! Mi P: a core term that was looked at is the model's -/
namespace Mi
open PySem PySem.Spec PyProof.Rows L2

section
variable {X : Cx} {G : Gs} {P : Pg} {cl : Cl} {k : Nat} {c : SC} {cd : Option (Addr × Addr)}
theorem bindPs_len : ∀ {a : E} {xs : List PV} {σ σ' : Env1} {c : SC} {es : List Expr}, chkGs a c es = true → bindPs a xs σ = some σ' → xs.length = es.length
  | .nil, [], _, _, _, es, h, _ => by
    have h : es.isEmpty = true := h
    cases es with
    | nil => rfl
    | cons _ _ => cases h
  | .nil, _ :: _, _, _, _, _, _, e => by cases e
  | .cons a r, [], _, _, _, _, _, e => by cases e
  | .cons a r, x :: xs, σ, σ', c, es, h, e => by
    cases es with
    | nil => cases h
    | cons y es =>
      have h : (chkG a c y && chkGs r c es) = true := h
      rw [Bool.and_eq_true] at h
      have e : (match bindP a x σ with | some σ' => bindPs r xs σ' | none => none) = some σ' := e
      split at e
      · rw [List.length_cons, List.length_cons, bindPs_len h.2 e]
      · cases e
  | .var _, _, _, _, _, _, h, _ => by cases h
  | .non, _, _, _, _, _, h, _ => by cases h
  | .bl _, _, _, _, _, _, h, _ => by cases h
  | .int _, _, _, _, _, _, h, _ => by cases h
  | .str _, _, _, _, _, _, h, _ => by cases h
  | .gv _, _, _, _, _, _, h, _ => by cases h
  | .tup _, _, _, _, _, _, h, _ => by cases h
  | .lst _, _, _, _, _, _, h, _ => by cases h
  | .bin .., _, _, _, _, _, h, _ => by cases h
  | .neg _, _, _, _, _, _, h, _ => by cases h
  | .cmp .., _, _, _, _, _, h, _ => by cases h
  | .ch .., _, _, _, _, _, h, _ => by cases h
  | .and .., _, _, _, _, _, h, _ => by cases h
  | .or .., _, _, _, _, _, h, _ => by cases h
  | .not _, _, _, _, _, _, h, _ => by cases h
  | .ite .., _, _, _, _, _, h, _ => by cases h
  | .idx .., _, _, _, _, _, h, _ => by cases h
  | .sl .., _, _, _, _, _, h, _ => by cases h
  | .call .., _, _, _, _, _, h, _ => by cases h
  | .bi .., _, _, _, _, _, h, _ => by cases h
  | .mt .., _, _, _, _, _, h, _ => by cases h
  | .att .., _, _, _, _, _, h, _ => by cases h
  | .mk .., _, _, _, _, _, h, _ => by cases h
  | .meth .., _, _, _, _, _, h, _ => by cases h
  | .range _, _, _, _, _, _, h, _ => by cases h
  | .enum _, _, _, _, _, _, h, _ => by cases h
  | .zip _, _, _, _, _, _, h, _ => by cases h
  | .itr _, _, _, _, _, _, h, _ => by cases h
  | .lc .., _, _, _, _, _, h, _ => by cases h
  | .lc2 .., _, _, _, _, _, h, _ => by cases h
  | .gen .., _, _, _, _, _, h, _ => by cases h
  | .gen2 .., _, _, _, _, _, h, _ => by cases h
  | .bad, _, _, _, _, _, h, _ => by cases h
/-- targets -/
theorem chkG_ok (a : E) : (∀ {X : Cx} {c : SC} {cd : Option (Addr × Addr)} {x : Expr}, Okx X G P cl k c cd → chkG a c x = true → PG X x (rdG G cd a)) ∧
    (∀ {X : Cx} {c : SC} {cd : Option (Addr × Addr)} {es : List Expr}, Okx X G P cl k c cd → es.all noStar = true → chkGs a c es = true → PGs X es (rdGs G cd a)) := by
  induction a with
  | var i =>
    refine ⟨fun {X c cd x} o h => ?_, fun _ _ h => by cases h⟩
    simp only [chkG] at h
    split at h
    · rw [Bool.and_eq_true, decide_eq_true_eq] at h
      obtain ⟨l1, l2⟩ := o.locX h.2
      exact rg_var (pg_name o.nd (by rw [o.N]; exact h.1) l1 l2)
    · cases h
  | tup a ih =>
    refine ⟨fun {X c cd x} o h => ?_, fun _ _ h => by cases h⟩
    simp only [chkG] at h
    split at h
    · rw [Bool.and_eq_true] at h
      exact rg_tup o.K o.calm (ih.2 o h.1 h.2) (fun xs σ σ' e => bindPs_len h.2 e) (asgs_len h.1) (asgs_find h.1)
    · cases h
  | nil =>
    refine ⟨fun _ h => (by cases h), fun {X c cd es} o _ h => ?_⟩
    have h : es.isEmpty = true := h
    cases es with
    | nil => exact rgs_nil
    | cons _ _ => cases h
  | cons a r iha ihr =>
    refine ⟨fun _ h => (by cases h), fun {X c cd es} o hs h => ?_⟩
    cases es with
    | nil => cases h
    | cons e es =>
      have h : (chkG a c e && chkGs r c es) = true := h
      rw [Bool.and_eq_true] at h
      rw [List.all_cons, Bool.and_eq_true] at hs
      exact rgs_cons (iha.1 o h.1) (ihr.2 o hs.2 h.2) (by rw [asg_ok hs.1]; rfl)
  | _ => exact ⟨fun _ h => (by cases h), fun _ _ h => (by cases h)⟩
theorem wk_ok {it t : E} (h : wkOk it t = true) : it.weak = true → t.isTup = true := fun hw => by
  unfold wkOk at h
  rw [hw] at h
  simpa using h
theorem own_ok {t : E} {own : List Nat} (h : inOwn t own = true) : ∀ i ∈ tgVars t, i ∈ own := fun i hi => by
  have := List.all_eq_true.mp h i hi
  simpa using this
/-- what is claimed of a looked-at term -/
structure Cl3 (G : Gs) (P : Pg) (cl : Cl) (k : Nat) (a : E) : Prop where
  e : ∀ {X : Cx} {c : SC} {cd : Option (Addr × Addr)} {x : Expr}, Okx X G P cl k c cd → chkE a c x = true → PE X x (RE G cd P cl a) ∧ PT X x (RT G cd P cl a) ∧ ∀ op vs p, x = .BoolOp op vs p → PW X x (RT G cd P cl a)
  l : ∀ {X : Cx} {c : SC} {cd : Option (Addr × Addr)} {es : List Expr}, Okx X G P cl k c cd → chkL a c es = true → PA X es (RL G cd P cl a) ∧ es.all noStar = true
  i : ∀ {X : Cx} {c : SC} {cd : Option (Addr × Addr)} {tg x : Expr}, Okx X G P cl k c cd → chkI a c tg x = true → PI X tg x (RI G cd P cl a)
  h1 : ∀ b, a = .cons b .nil → ∀ {X : Cx} {c : SC} {cd : Option (Addr × Addr)} {x : Expr}, Okx X G P cl k c cd → chkE b c x = true → PE X x (RE G cd P cl b)
/-- plain terms: a test is a value's truth -/
theorem plain_ok {a : E} {x : Expr} (hK : X.K = G.K) (h : PE X x (RE G cd P cl a)) (he : ∀ whole, isTrue x X.env whole = (do let v ← whole; standAt x.pos; holding [v] (truthy v))) (hb : ∀ op vs p, x ≠ .BoolOp op vs p) :
    PE X x (RE G cd P cl a) ∧ PT X x (RT G cd P cl a) ∧ ∀ op vs p, x = .BoolOp op vs p → PW X x (RT G cd P cl a) := ⟨h, rt_val hK h he, fun op vs p e => absurd e (hb op vs p)⟩
theorem gxc (o : Okx X G P cl k c cd) {d : Nat} (hd : c.d = d + 1) : GXc X G cd := ⟨⟨k + d, by have := o.room; rw [hd] at this; exact this⟩, o.calm, o.nd, o.code, o.blt⟩
theorem room0 (o : Okx X G P cl k c cd) : Room k X.A := o.room.mono (Nat.le_add_right _ _)
def BN (id : String) (v : Value) : Prop := bootBuiltins (Str.ofString id) = some v ∧ Str.ofString id ≠ "__name__" ∧ (Str.ofString id == ("__debug__" : Str)) = false
theorem con_of {g : Gc} (o : Okx X G P cl k c cd) (h : g.on = true) : (∃ id, g.nm = Str.ofString id ∧ BN id (.builtin id) ∧ ConR X G g (.builtin id)) ∨ ∃ id, g.nm = Str.ofString id ∧ BN id (.type id) ∧ ConR X G g (.type id) := by
  have r := room0 o
  cases g with
  | tuple => exact .inr ⟨"tuple", rfl, ⟨by decide +kernel, by decide +kernel, by decide +kernel⟩, con_tuple r.hd r.depth⟩
  | all => exact .inl ⟨"all", rfl, ⟨by decide +kernel, by decide +kernel, by decide +kernel⟩, con_all r.hd r.depth⟩
  | sorted => exact .inl ⟨"sorted", rfl, ⟨by decide +kernel, by decide +kernel, by decide +kernel⟩, con_sorted r.hd r.depth⟩
  | any => exact .inl ⟨"any", rfl, ⟨by decide +kernel, by decide +kernel, by decide +kernel⟩, con_any r.hd r.depth⟩
  | _ => cases h
/-- the tests of the last clause -/
theorem tests_ok {q : E} (iq : ∀ {X : Cx} {c : SC} {cd : Option (Addr × Addr)} {x : Expr}, Okx X G P cl k c cd → chkE q c x = true → PT X x (RT G cd P cl q)) {ifs : List Expr} (o : Okx X G P cl k c cd) (h : ckIfs q (chk q) c ifs = true) : PTs X ifs (RT G cd P cl q) := by
  cases ifs with
  | nil =>
    have h : q.isT = true := h
    cases q with
    | bl b =>
      cases b with
      | true => exact rts_nil
      | false => cases h
    | _ => cases h
  | cons i r =>
    cases r with
    | nil => exact rts_one (iq o h)
    | cons _ _ => cases h
theorem bi_ok {X : Cx} {b : Bi} (hK : X.K = G.K) (hc : X.calm = true) (hu : X.A.units + 1 < cLine) : (b.kd = .fn → ∃ id, b.nm = Str.ofString id ∧ BN id (.builtin id) ∧ CallR X (.builtin id) (rdC G (pbi b))) ∧
    (b.kd = .ty → ∃ id, b.nm = Str.ofString id ∧ BN id (.type id) ∧ CallR X (.type id) (rdC G (pbi b))) ∧ (∀ t, b.kd = .is t → b = t.bi ∧ b.nm = "isinstance") := by
  refine ⟨fun h => ?_, fun h => ?_, fun t h => ?_⟩
  · cases b <;> first | (cases h; done) | exact ⟨"len", rfl, ⟨by decide +kernel, by decide +kernel, by decide +kernel⟩, bi_len hK⟩ | exact ⟨"sorted", rfl, ⟨by decide +kernel, by decide +kernel, by decide +kernel⟩, bi_sorted hK⟩
  · cases b <;> first | (cases h; done) | exact ⟨"tuple", rfl, ⟨by decide +kernel, by decide +kernel, by decide +kernel⟩, bi_tuple hK⟩ | exact ⟨"list", rfl, ⟨by decide +kernel, by decide +kernel, by decide +kernel⟩, bi_list hK⟩ | exact ⟨"int", rfl, ⟨by decide +kernel, by decide +kernel, by decide +kernel⟩, bi_int⟩ | exact ⟨"str", rfl, ⟨by decide +kernel, by decide +kernel, by decide +kernel⟩, bi_str⟩ | exact ⟨"dict", rfl, ⟨by decide +kernel, by decide +kernel, by decide +kernel⟩, bi_dict hK hc⟩
  · cases b <;> (cases t <;> first | (cases h; done) | exact ⟨rfl, rfl⟩)
theorem is1_inv {a : E} (h : a.is1 = true) : ∃ b, a = .cons b .nil := by
  cases a with
  | cons b r => cases r with
    | nil => exact ⟨b, rfl⟩
    | _ => cases h
  | _ => cases h
theorem is2_inv {a : E} (h : a.is2 = true) : ∃ b d, a = .cons b (.cons d .nil) := by
  cases a with
  | cons b r => cases r with
    | cons d r => cases r with
      | nil => exact ⟨b, d, rfl⟩
      | _ => cases h
    | _ => cases h
  | _ => cases h
theorem ckl_nil {a : E} {c : SC} (h : (chk a).l c [] = true) : a = .nil := by
  cases a <;> first | rfl | cases h
theorem ckl_one {a : E} {c : SC} {e : Expr} (h : (chk (.cons a .nil)).l c [e] = true) : (chk a).e c e = true := by
  have h : (noStar e && (chk a).e c e && ([] : List Expr).isEmpty) = true := h
  simp only [Bool.and_eq_true] at h
  exact h.1.2
theorem part_ok {lo : E} (ih : ∀ {X : Cx} {c : SC} {cd : Option (Addr × Addr)} {x : Expr}, Okx X G P cl k c cd → chkE lo c x = true → PE X x (RE G cd P cl lo)) {u : Option Expr} (o : Okx X G P cl k c cd) (h : ckO lo (chk lo) c u = true) : PO X u (rdO G cd P cl lo) := by
  cases u with
  | none =>
    have h : lo.isNon = true := h
    cases lo <;> first | exact ro_none | cases h
  | some u =>
    have h : (!lo.isNon && (chk lo).e c u) = true := h
    rw [Bool.and_eq_true] at h
    exact ro_some (ih o h.2) (fun z => by subst z; cases h.1)
theorem few_ok {e : Expr} {es : List Expr} {env : Env} {pos : Pos} (h : (e :: es).all noStar = true) (hl : (e :: es).length < 30) : ((backTo pos (starEach (e :: es) env)).all (fun x => !x.1) && (backToKw pos (keywordEach [] env)).all (fun x => x.1.isSome)
      && decide ((e :: es).length + ([] : List Keyword).length + (if ([] : List Keyword).isEmpty then 0 else 1) < 30)) = true := by
  rw [stars_all h]
  show (true && true && decide _) = true
  simpa using hl
theorem gsc_ok {own : List Nat} {sc : Scope} (o : Okx X G P cl k c cd) (h : genOn c own sc = true) : GSc X sc (ownOf c.N sc) ∧ own = (ownOf c.N sc).map (·.2) := by
  unfold genOn at h
  simp only [Bool.and_eq_true, decide_eq_true_eq, Bool.not_eq_true', List.all_eq_true, decide_eq_false_iff_not] at h
  obtain ⟨⟨⟨h1, h2⟩, h3⟩, h4⟩ := h
  obtain ⟨ok, e⟩ := o.blkX h1
  exact ⟨⟨h2, ok, h3, h4⟩, e⟩
theorem mt_ok {m : Mt} {p a : E} {eo e : Expr} {es : List Expr} {apos cpos : Pos} (hK : X.K = G.K) (hr : Room k X.A) (hm : m.on = true) (ho : PE X eo (RE G cd P cl p)) (ha : PA X (e :: es) (RL G cd P cl a)) (hbase : attributeBase eo m.nm X.env (eval eo X.env) = eval eo X.env)
    (hfew : ((backTo cpos (starEach (e :: es) X.env)).all (fun x => !x.1) && (backToKw cpos (keywordEach [] X.env)).all (fun x => x.1.isSome)
      && decide ((e :: es).length + ([] : List Keyword).length + (if ([] : List Keyword).isEmpty then 0 else 1) < 30)) = true)
    (hline : (apos.endLine == cpos.line) = true) (hs : starEach (e :: es) X.env = (false, eval e X.env) :: starEach es X.env) (hplain : (backTo cpos (starEach es X.env)).any (·.1) = false) :
    PE X (.Call (.Attribute eo m.nm apos) (e :: es) [] cpos) (RE G cd P cl (.mt m p a)) := by
  have hu : X.A.units + 1 < cLine := by have := hr.units; omega
  cases m with
  | append => exact rd_mt (T := "list") hK rfl F.plainAttrs_list F.slot_list_append F.type_list_append mt_app ho ha hbase hfew hline hs hplain
  | get => exact rd_mt (T := "dict") hK rfl F.plainAttrs_dict F.slot_dict_get F.type_dict_get (mt_dget hu) ho ha hbase hfew hline hs hplain
  | _ => cases hm
theorem rt_ite {q a b : E} {ec ea eb : Expr} {pos} (hc : PT X ec (RT G cd P cl q)) (ha : PT X ea (RT G cd P cl a)) (hb : PT X eb (RT G cd P cl b)) : PT X (.IfExp ec ea eb pos) (RT G cd P cl (.ite q a b)) := by
  refine ⟨fun pins s σ H Q I ⟨ρ, σp, hp, d, h', sr, wf, ev, g⟩ => ?_⟩
  obtain ⟨v, ev, tv⟩ := tst_some ev
  show wpAny _ _ (isTrue ec X.env (eval ec X.env) >>= fun t => if t = true then isTrue ea X.env (eval ea X.env) else isTrue eb X.env (eval eb X.env)) _ _ s
  unfold evE at ev
  split at ev
  · rename_i x h1 e1
    have ts : ∀ d, truth x h1 = some d → tst (evE P cl q σp hp) = some (d, h1) := fun d hd => by
      rw [e1]; show (truth x h1).map _ = _; rw [hd]; rfl
    split at ev
    · rename_i z
      refine wpAny_bind (thn (hc.run pins s σ H (fun t H1 => t = true ∧ ∃ ρ1, Ext ρ ρ1 H H1 ∧ Wf G ρ1 h1 H1) I ⟨ρ, σp, hp, true, h1, sr, wf, ts _ z, fun H1 ρ1 x1 w1 => ⟨rfl, ρ1, x1, w1⟩⟩) fun t s1 ⟨H1, I1, e2, ρ1, x1, w1⟩ => ?_)
      subst e2
      rw [if_pos rfl]
      exact ha.run pins s1 σ H1 Q I1 ⟨ρ1, σp, h1, d, h', sr.mono x1, w1, by rw [show evE P cl a σp h1 = some (v, h') from ev]; show (truth v h').map _ = _; rw [tv]; rfl, g.mono x1⟩
    · rename_i z
      refine wpAny_bind (thn (hc.run pins s σ H (fun t H1 => t = false ∧ ∃ ρ1, Ext ρ ρ1 H H1 ∧ Wf G ρ1 h1 H1) I ⟨ρ, σp, hp, false, h1, sr, wf, ts _ z, fun H1 ρ1 x1 w1 => ⟨rfl, ρ1, x1, w1⟩⟩) fun t s1 ⟨H1, I1, e2, ρ1, x1, w1⟩ => ?_)
      subst e2
      rw [if_neg (by decide)]
      exact hb.run pins s1 σ H1 Q I1 ⟨ρ1, σp, h1, d, h', sr.mono x1, w1, by rw [show evE P cl b σp h1 = some (v, h') from ev]; show (truth v h').map _ = _; rw [tv]; rfl, g.mono x1⟩
    · cases ev
  · cases ev
theorem chk_ok (a : E) : Cl3 G P cl k a := by
  induction a with
  | var i =>
    refine ⟨fun {X c cd x} o h => ?_, fun _ h => (by cases h), fun _ h => (by cases h), fun _ e => nomatch e⟩
    replace h : ckVar i c x = true := h
    unfold ckVar at h
    split at h
    · simp only [Bool.and_eq_true, decide_eq_true_eq] at h
      obtain ⟨n1, n2, n3⟩ := nm_ok h.2
      exact plain_ok o.K (rd_var (pe_var (by rw [o.N]; exact h.1.1) (o.visX h.1.2) n1 n2)) (fun _ => rfl) (fun _ _ _ e => nomatch e)
    · cases h
  | non =>
    refine ⟨fun {X c cd x} o h => ?_, fun _ h => (by cases h), fun _ h => (by cases h), fun _ e => nomatch e⟩
    replace h : ckNon c x = true := h
    unfold ckNon at h
    split at h
    · exact plain_ok o.K (rd_const pe_non (fun _ _ => rfl) fun _ _ => .non) (fun _ => rfl) (fun _ _ _ e => nomatch e)
    · cases h
  | bl b =>
    refine ⟨fun {X c cd x} o h => ?_, fun _ h => (by cases h), fun _ h => (by cases h), fun _ e => nomatch e⟩
    replace h : ckBl b c x = true := h
    unfold ckBl at h
    split at h
    · have h := of_decide_eq_true h
      subst h
      exact plain_ok o.K (rd_const pe_bl (fun _ _ => rfl) fun _ _ => .bl _) (fun _ => rfl) (fun _ _ _ e => nomatch e)
    · cases h
  | int i =>
    refine ⟨fun {X c cd x} o h => ?_, fun _ h => (by cases h), fun _ h => (by cases h), fun _ e => nomatch e⟩
    replace h : ckInt i c x = true := h
    unfold ckInt at h
    split at h
    · have h := of_decide_eq_true h
      subst h
      exact plain_ok o.K (rd_const pe_int (fun _ _ => rfl) fun _ _ => .int _) (fun _ => rfl) (fun _ _ _ e => nomatch e)
    · cases h
  | str s =>
    refine ⟨fun {X c cd x} o h => ?_, fun _ h => (by cases h), fun _ h => (by cases h), fun _ e => nomatch e⟩
    replace h : ckStr s c x = true := h
    unfold ckStr at h
    split at h
    · have h := of_decide_eq_true h
      subst h
      exact plain_ok o.K (rd_const pe_str (fun _ _ => rfl) fun _ _ => .str _) (fun _ => rfl) (fun _ _ _ e => nomatch e)
    · cases h
  | gv g =>
    refine ⟨fun {X c cd x} o h => ?_, fun _ h => (by cases h), fun _ h => (by cases h), fun _ e => nomatch e⟩
    replace h : ckGv g c x = true := h
    unfold ckGv at h
    split at h
    · simp only [Bool.and_eq_true, decide_eq_true_eq] at h
      obtain ⟨n1, n2, n3⟩ := nm_ok h.1.2
      obtain ⟨pv, v, u, h1, h2, h3, h4⟩ := o.gs _ _ h.2
      exact plain_ok o.K (rd_const (v := pv) (pe_glob (o.glX h.1.1) h2 h3 n1) (fun σ hp => by show (P.consts[g]?).map _ = _; rw [h1]; rfl) h4) (fun _ => rfl) (fun _ _ _ e => nomatch e)
    · cases h
  | tup a ih =>
    refine ⟨fun {X c cd x} o h => ?_, fun _ h => (by cases h), fun _ h => (by cases h), fun _ e => nomatch e⟩
    replace h : ckTup (chk a) c x = true := h
    unfold ckTup at h
    split at h
    · exact plain_ok o.K (rd_tup (ih.l o h).1) (fun _ => rfl) (fun _ _ _ e => nomatch e)
    · cases h
  | lst a ih =>
    refine ⟨fun {X c cd x} o h => ?_, fun _ h => (by cases h), fun _ h => (by cases h), fun _ e => nomatch e⟩
    replace h : ckLst (chk a) c x = true := h
    unfold ckLst at h
    split at h
    · exact plain_ok o.K (rd_lst (ih.l o h).1) (fun _ => rfl) (fun _ _ _ e => nomatch e)
    · cases h
  | bin p a b iha ihb =>
    refine ⟨fun {X c cd x} o h => ?_, fun _ h => (by cases h), fun _ h => (by cases h), fun _ e => nomatch e⟩
    replace h : ckBin p (chk a) (chk b) c x = true := h
    unfold ckBin at h
    split at h
    · simp only [Bool.and_eq_true, decide_eq_true_eq] at h
      obtain ⟨⟨h1, h2⟩, h3⟩ := h
      subst h1
      exact plain_ok o.K (rd_bin o.K (iha.e o h2).1 (ihb.e o h3).1) (fun _ => rfl) (fun _ _ _ e => nomatch e)
    · cases h
  | neg a ih =>
    refine ⟨fun {X c cd x} o h => ?_, fun _ h => (by cases h), fun _ h => (by cases h), fun _ e => nomatch e⟩
    replace h : ckNeg (chk a) c x = true := h
    unfold ckNeg at h
    split at h
    · exact plain_ok o.K (rd_neg (ih.e o h).1) (fun _ => rfl) (fun _ _ _ e => nomatch e)
    · cases h
  | cmp p a b iha ihb =>
    refine ⟨fun {X c cd x} o h => ?_, fun _ h => (by cases h), fun _ h => (by cases h), fun _ e => nomatch e⟩
    replace h : ckCmp p (chk a) (chk b) c x = true := h
    unfold ckCmp at h
    split at h
    · simp only [Bool.and_eq_true, decide_eq_true_eq] at h
      obtain ⟨⟨⟨h1, h0⟩, h2⟩, h3⟩ := h
      subst h1
      exact ⟨rd_cmp o.K (behind_ok h0) (iha.e o h2).1 (ihb.e o h3).1, rt_cmp o.K (behind_ok h0) (iha.e o h2).1 (ihb.e o h3).1, fun _ _ _ e => nomatch e⟩
    · cases h
  | ch p q a b d iha ihb ihd =>
    refine ⟨fun {X c cd x} o h => ?_, fun _ h => (by cases h), fun _ h => (by cases h), fun _ e => nomatch e⟩
    replace h : ckCh p q (chk a) (chk b) (chk d) c x = true := h
    unfold ckCh at h
    split at h
    · simp only [Bool.and_eq_true, decide_eq_true_eq] at h
      obtain ⟨⟨⟨⟨⟨h1, h1'⟩, h0⟩, h2⟩, h3⟩, h4⟩ := h
      subst h1; subst h1'
      exact ⟨rd_ch o.K (last_ok h0) (iha.e o h2).1 (ihb.e o h3).1 (ihd.e o h4).1, rt_ch o.K (last_ok h0) (iha.e o h2).1 (ihb.e o h3).1 (ihd.e o h4).1, fun _ _ _ e => nomatch e⟩
    · cases h
  | and a b iha ihb =>
    refine ⟨fun {X c cd x} o h => ?_, fun _ h => (by cases h), fun _ h => (by cases h), fun _ e => nomatch e⟩
    replace h : ckAnd (chk a) (chk b) c x = true := h
    unfold ckAnd at h
    split at h
    · rename_i l m r p
      rw [Bool.and_eq_true] at h
      obtain ⟨a1, a2, _⟩ := iha.e o h.1
      cases r with
      | nil =>
        obtain ⟨b1, b2, _⟩ := ihb.e o h.2
        have w := rt_and (pos := p) a2 (pw_and1 b2)
        exact ⟨rd_and o.K a1 (pe_one b1), w.toPT, fun _ _ _ e => by cases e; exact w⟩
      | cons n r =>
        obtain ⟨b1, _, b3⟩ := ihb.e o h.2
        have w := rt_and (pos := p) a2 (b3 _ _ _ rfl)
        exact ⟨rd_and o.K a1 b1, w.toPT, fun _ _ _ e => by cases e; exact w⟩
    · cases h
  | or a b iha ihb =>
    refine ⟨fun {X c cd x} o h => ?_, fun _ h => (by cases h), fun _ h => (by cases h), fun _ e => nomatch e⟩
    replace h : ckOr (chk a) (chk b) c x = true := h
    unfold ckOr at h
    split at h
    · rename_i l m r p
      rw [Bool.and_eq_true] at h
      obtain ⟨a1, a2, _⟩ := iha.e o h.1
      cases r with
      | nil =>
        obtain ⟨b1, b2, _⟩ := ihb.e o h.2
        have w := rt_or (pos := p) a2 (pw_or1 b2)
        exact ⟨rd_or o.K a1 (pe_one b1), w.toPT, fun _ _ _ e => by cases e; exact w⟩
      | cons n r =>
        obtain ⟨b1, _, b3⟩ := ihb.e o h.2
        have w := rt_or (pos := p) a2 (b3 _ _ _ rfl)
        exact ⟨rd_or o.K a1 b1, w.toPT, fun _ _ _ e => by cases e; exact w⟩
    · cases h
  | not a ih =>
    refine ⟨fun {X c cd x} o h => ?_, fun _ h => (by cases h), fun _ h => (by cases h), fun _ e => nomatch e⟩
    replace h : ckNot (chk a) c x = true := h
    unfold ckNot at h
    split at h
    · obtain ⟨a1, a2, _⟩ := ih.e o h
      exact ⟨rd_not o.K a1, rt_not a2, fun _ _ _ e => nomatch e⟩
    · cases h
  | ite q a b ihq iha ihb =>
    refine ⟨fun {X c cd x} o h => ?_, fun _ h => (by cases h), fun _ h => (by cases h), fun _ e => nomatch e⟩
    replace h : ckIte (chk q) (chk a) (chk b) c x = true := h
    unfold ckIte at h
    split at h
    · simp only [Bool.and_eq_true] at h
      obtain ⟨a1, a2, _⟩ := iha.e o h.1.2
      obtain ⟨b1, b2, _⟩ := ihb.e o h.2
      exact ⟨rd_ite (ihq.e o h.1.1).2.1 a1 b1, rt_ite (ihq.e o h.1.1).2.1 a2 b2, fun _ _ _ e => nomatch e⟩
    · cases h
  | idx a i iha ihi =>
    refine ⟨fun {X c cd x} o h => ?_, fun _ h => (by cases h), fun _ h => (by cases h), fun _ e => nomatch e⟩
    replace h : ckIdx (chk a) (chk i) c x = true := h
    unfold ckIdx at h
    split at h
    · simp only [Bool.and_eq_true] at h
      exact plain_ok o.K (rd_idx o.K (ix_plain h.1.1) (iha.e o h.1.2).1 (ihi.e o h.2).1) (fun _ => rfl) (fun _ _ _ e => nomatch e)
    · cases h
  | sl a lo hi iha ihl ihh =>
    refine ⟨fun {X c cd x} o h => ?_, fun _ h => (by cases h), fun _ h => (by cases h), fun _ e => nomatch e⟩
    replace h : ckSl (chk a) lo (chk lo) hi (chk hi) c x = true := h
    unfold ckSl at h
    split at h
    · simp only [Bool.and_eq_true] at h
      exact plain_ok o.K (rd_sl o.K (iha.e o h.1.1).1 (part_ok (fun o h => (ihl.e o h).1) o h.1.2) (part_ok (fun o h => (ihh.e o h).1) o h.2)) (fun _ => rfl) (fun _ _ _ e => nomatch e)
    · cases h
  | call f a ih =>
    refine ⟨fun {X c cd x} o h => ?_, fun _ h => (by cases h), fun _ h => (by cases h), fun _ e => nomatch e⟩
    replace h : ckCall f (chk a) c x = true := h
    unfold ckCall at h
    split at h
    · rename_i es _
      simp only [Bool.and_eq_true, decide_eq_true_eq] at h
      obtain ⟨⟨⟨h1, h2⟩, h3⟩, h4⟩ := h
      obtain ⟨n1, n2, n3⟩ := nm_ok h2
      obtain ⟨hl, hs⟩ := ih.l o h4
      obtain ⟨⟨f', ar⟩, h5, h6⟩ := Option.map_eq_some_iff.mp h3
      cases h6
      obtain ⟨fa, fd, ps, g1, g2, g3, g4, g5⟩ := o.fs _ _ _ h5
      cases es with
      | nil =>
        obtain rfl := ckl_nil h4
        exact plain_ok o.K (rd_call0 g4 (room0 o) (o.glX h1) g1 g2 g3 g5 n1) (fun _ => rfl) (fun _ _ _ e => nomatch e)
      | cons e es =>
        rw [List.all_cons, Bool.and_eq_true] at hs
        exact plain_ok o.K (rd_call g4 (room0 o) (o.glX h1) g1 g2 g3 g5 hl (star_ok hs.1) (stars_ok hs.2) n1) (fun _ => rfl) (fun _ _ _ e => nomatch e)
    · cases h
  | bi b a ih =>
    refine ⟨fun {X c cd x} o h => ?_, fun _ h => (by cases h), fun _ h => (by cases h), fun _ e => nomatch e⟩
    replace h : ckBi b a (chk a) c x = true := h
    unfold ckBi at h
    split at h
    · rename_i x es _
      rw [Bool.and_eq_true] at h
      obtain ⟨h0, h⟩ := h
      obtain ⟨hx, hgl, hm⟩ := o.bltX h0
      obtain ⟨b1, b2, b3⟩ := bi_ok (X := X) (G := G) (b := b) o.K o.calm (by have := (room0 o).units; omega)
      split at h
      · rename_i hk
        rw [Bool.and_eq_true] at h
        obtain ⟨id, i1, i2, i3⟩ := b1 hk
        obtain ⟨hl, hs⟩ := ih.l o h.2
        cases es with
        | nil => cases h.1
        | cons e es =>
          rw [List.all_cons, Bool.and_eq_true] at hs
          rw [hx] at hgl hm ⊢
          rw [i1] at hgl hm ⊢
          exact plain_ok o.K (rd_biB i3 hgl hm i2.1 hl i2.2.1 i2.2.2 (star_ok hs.1) (stars_ok hs.2)) (fun _ => rfl) (fun _ _ _ e => nomatch e)
      · rename_i hk
        rw [Bool.and_eq_true] at h
        obtain ⟨id, i1, i2, i3⟩ := b2 hk
        obtain ⟨hl, hs⟩ := ih.l o h.2
        cases es with
        | nil => cases h.1
        | cons e es =>
          rw [List.all_cons, Bool.and_eq_true] at hs
          rw [hx] at hgl hm ⊢
          rw [i1] at hgl hm ⊢
          exact plain_ok o.K (rd_biT i3 hgl hm i2.1 hl i2.2.1 i2.2.2 (star_ok hs.1) (stars_ok hs.2)) (fun _ => rfl) (fun _ _ _ e => nomatch e)
      · rename_i t hk
        split at h
        · rename_i e y _
          simp only [Bool.and_eq_true] at h
          obtain ⟨⟨k1, k2⟩, k3⟩ := h
          obtain ⟨hy, hgy, hmy⟩ := o.bltX k1
          obtain ⟨rfl, hnm⟩ := b3 t hk
          obtain ⟨a', rfl⟩ := is1_inv k2
          obtain ⟨hl, hs⟩ := ih.l o k3
          rw [List.all_cons, Bool.and_eq_true] at hs
          rw [hnm] at hx
          subst hx; subst hy
          exact plain_ok o.K (rd_isi o.K hgl hm hgy hmy (ih.h1 a' rfl o (ckl_one k3)) (star_ok hs.1)) (fun _ => rfl) (fun _ _ _ e => nomatch e)
        · cases h
      · rename_i hk
        split at h
        · rename_i y _ e _
          rw [Bool.and_eq_true] at h
          obtain ⟨k1, k2⟩ := h
          obtain ⟨hy, hgy, hmy⟩ := o.bltX k1
          obtain ⟨hl, hs⟩ := ih.l o k2
          rw [List.all_cons, Bool.and_eq_true] at hs
          cases b <;> first | (cases hk; done) | exact plain_ok o.K (rd_sset o.K o.calm hx hy hgl hm hgy hmy hl (star_ok hs.1)) (fun _ => rfl) (fun _ _ _ e => nomatch e)
        · cases h
      · cases h
    · cases h
  | mt m p a ihp iha =>
    refine ⟨fun {X c cd x} o h => ?_, fun _ h => (by cases h), fun _ h => (by cases h), fun _ e => nomatch e⟩
    replace h : ckMt m (chk p) (chk a) c x = true := h
    unfold ckMt at h
    split at h
    · rename_i l y p es q
      simp only [Bool.and_eq_true, decide_eq_true_eq, Bool.not_eq_true'] at h
      obtain ⟨⟨⟨⟨⟨⟨⟨k1, k2⟩, k3⟩, k4⟩, k5⟩, k6⟩, k7⟩, k8⟩ := h
      obtain ⟨hl, hs⟩ := iha.l o k8
      cases es with
      | nil => cases k5
      | cons e es =>
        have hs0 := hs
        rw [List.all_cons, Bool.and_eq_true] at hs
        subst k2
        have few := few_ok (env := X.env) (pos := q) hs0 k6
        exact plain_ok o.K (mt_ok o.K (room0 o) k1 (ihp.e o k7).1 hl (base_ok k3) few k4 (star_ok hs.1) (stars_ok hs.2)) (fun _ => rfl) (fun _ _ _ e => nomatch e)
    · cases h
  | lc own t it q e iht ihit ihq ihe =>
    refine ⟨fun {X c cd x} o h => ?_, fun _ h => (by cases h), fun _ h => (by cases h), fun _ e => nomatch e⟩
    replace h : ckLc own t it (chk it) q (chk q) (chk e) c x = true := h
    unfold ckLc at h
    split at h
    · simp only [Bool.and_eq_true] at h
      obtain ⟨⟨⟨⟨⟨⟨⟨h1, h2⟩, h3⟩, h4⟩, h5⟩, h6⟩, h7⟩, h8⟩ := h
      obtain ⟨ok, rfl⟩ := o.blkX h1
      exact plain_ok o.K (rd_lc o.calm o.nd (ihit.i o h5) ok (fun s H C cs fp => (chkG_ok t).1 (o.blk s H C cs fp) h6) (fun s H C cs fp => tests_ok (fun o h => (ihq.e o h).2.1) (o.blk s H C cs fp) h8)
        (fun s H C cs fp => (ihe.e (o.blk s H C cs fp) h7).1) (folded_ok h4) (wk_ok h2) (own_ok h3)) (fun _ => rfl) (fun _ _ _ e => nomatch e)
    · cases h
  | lc2 own t it t2 it2 q e iht ihit iht2 ihit2 ihq ihe =>
    refine ⟨fun {X c cd x} o h => ?_, fun _ h => (by cases h), fun _ h => (by cases h), fun _ e => nomatch e⟩
    replace h : ckLc2 own t it (chk it) t2 it2 (chk it2) q (chk q) (chk e) c x = true := h
    unfold ckLc2 at h
    split at h
    · simp only [Bool.and_eq_true] at h
      obtain ⟨⟨⟨⟨⟨⟨⟨⟨⟨⟨⟨⟨h1, h2⟩, h2'⟩, h3⟩, h3'⟩, h4⟩, h4'⟩, h5⟩, h6⟩, h7⟩, h8⟩, h9⟩, h10⟩ := h
      obtain ⟨ok, rfl⟩ := o.blkX h1
      exact plain_ok o.K (rd_lc2 o.calm o.nd (ihit.i o h5) ok (fun s H C cs fp => (chkG_ok t).1 (o.blk s H C cs fp) h6) (fun s H C cs fp => (ihe.e (o.blk s H C cs fp) h9).1) (folded_ok h4)
        (fun s H C cs fp => ihit2.i (o.blk s H C cs fp) h7) (fun s H C cs fp => (chkG_ok t2).1 (o.blk s H C cs fp) h8) (fun s H C cs fp => tests_ok (fun o h => (ihq.e o h).2.1) (o.blk s H C cs fp) h10) (fun env => folded_ok h4') (wk_ok h2) (wk_ok h2') (own_ok h3) (own_ok h3')) (fun _ => rfl) (fun _ _ _ e => nomatch e)
    · cases h
  | gen g own t it q e iht ihit ihq ihe =>
    refine ⟨fun {X c cd x} o h => ?_, fun _ h => (by cases h), fun _ h => (by cases h), fun _ e => nomatch e⟩
    replace h : ckGen g own t it (chk it) q (chk q) (chk e) c x = true := h
    unfold ckGen at h
    split at h
    · split at h
      · cases h
      · rename_i d hd
        simp only [Bool.and_eq_true] at h
        obtain ⟨⟨⟨⟨⟨⟨⟨⟨⟨h1, h2⟩, h3⟩, h4⟩, h5⟩, h6⟩, h7⟩, h8⟩, h9⟩, h10⟩ := h
        obtain ⟨gs, rfl⟩ := gsc_ok o h3
        obtain ⟨hx, hgl, hm⟩ := o.bltX h2
        have a1 := ihit.i o h7
        have a2 : GenCx X _ fun Y cd' => PG Y _ (rdG G cd' t) := fun s H cenv fp A c' P' e1 e2 e3 => (chkG_ok t).1 (o.gen hd s H cenv fp A c' P' e1 e2 e3) h8
        have a3 : GenCx X _ fun Y cd' => PTs Y _ (RT G cd' P cl q) := fun s H cenv fp A c' P' e1 e2 e3 => tests_ok (fun o h => (ihq.e o h).2.1) (o.gen hd s H cenv fp A c' P' e1 e2 e3) h10
        have a4 : GenCx X _ fun Y cd' => PE Y _ (RE G cd' P cl e) := fun s H cenv fp A c' P' e1 e2 e3 => (ihe.e (o.gen hd s H cenv fp A c' P' e1 e2 e3) h9).1
        rw [hx] at hgl hm ⊢
        rcases con_of o h1 with ⟨id, i1, i2, i3⟩ | ⟨id, i1, i2, i3⟩
        · rw [i1] at hgl hm ⊢
          exact plain_ok o.K (rd_genB i3 (gxc o hd) gs hgl hm i2.1 i2.2.1 i2.2.2 a1 a2 a3 a4 (gfold_ok h6) (wk_ok h4) (own_ok h5)) (fun _ => rfl) (fun _ _ _ e => nomatch e)
        · rw [i1] at hgl hm ⊢
          exact plain_ok o.K (rd_genT i3 (gxc o hd) gs hgl hm i2.1 i2.2.1 i2.2.2 a1 a2 a3 a4 (gfold_ok h6) (wk_ok h4) (own_ok h5)) (fun _ => rfl) (fun _ _ _ e => nomatch e)
    · cases h
  | gen2 g own t it t2 it2 q e iht ihit iht2 ihit2 ihq ihe =>
    refine ⟨fun {X c cd x} o h => ?_, fun _ h => (by cases h), fun _ h => (by cases h), fun _ e => nomatch e⟩
    replace h : ckGen2 g own t it (chk it) t2 it2 (chk it2) q (chk q) (chk e) c x = true := h
    unfold ckGen2 at h
    split at h
    · split at h
      · cases h
      · rename_i d hd
        simp only [Bool.and_eq_true] at h
        obtain ⟨⟨⟨⟨⟨⟨⟨⟨⟨⟨⟨⟨⟨⟨h1, h2⟩, h3⟩, h4⟩, h4'⟩, h5⟩, h5'⟩, h6⟩, h6'⟩, h7⟩, h8⟩, h7'⟩, h8'⟩, h9⟩, h10⟩ := h
        obtain ⟨gs, rfl⟩ := gsc_ok o h3
        obtain ⟨hx, hgl, hm⟩ := o.bltX h2
        have a1 := ihit.i o h7
        have a2 : GenCx X _ fun Y cd' => PG Y _ (rdG G cd' t) := fun s H cenv fp A c' P' e1 e2 e3 => (chkG_ok t).1 (o.gen hd s H cenv fp A c' P' e1 e2 e3) h8
        have b1 : GenCx X _ fun Y cd' => PI Y _ _ (RI G cd' P cl it2) := fun s H cenv fp A c' P' e1 e2 e3 => ihit2.i (o.gen hd s H cenv fp A c' P' e1 e2 e3) h7'
        have b2 : GenCx X _ fun Y cd' => PG Y _ (rdG G cd' t2) := fun s H cenv fp A c' P' e1 e2 e3 => (chkG_ok t2).1 (o.gen hd s H cenv fp A c' P' e1 e2 e3) h8'
        have a3 : GenCx X _ fun Y cd' => PTs Y _ (RT G cd' P cl q) := fun s H cenv fp A c' P' e1 e2 e3 => tests_ok (fun o h => (ihq.e o h).2.1) (o.gen hd s H cenv fp A c' P' e1 e2 e3) h10
        have a4 : GenCx X _ fun Y cd' => PE Y _ (RE G cd' P cl e) := fun s H cenv fp A c' P' e1 e2 e3 => (ihe.e (o.gen hd s H cenv fp A c' P' e1 e2 e3) h9).1
        rw [hx] at hgl hm ⊢
        rcases con_of o h1 with ⟨id, i1, i2, i3⟩ | ⟨id, i1, i2, i3⟩
        · rw [i1] at hgl hm ⊢
          exact plain_ok o.K (rd_gen2B i3 (gxc o hd) gs hgl hm i2.1 i2.2.1 i2.2.2 a1 a2 b1 b2 a3 a4 (gfold_ok h6) (fun env => folded_ok h6') (wk_ok h4) (wk_ok h4') (own_ok h5) (own_ok h5')) (fun _ => rfl) (fun _ _ _ e => nomatch e)
        · rw [i1] at hgl hm ⊢
          exact plain_ok o.K (rd_gen2T i3 (gxc o hd) gs hgl hm i2.1 i2.2.1 i2.2.2 a1 a2 b1 b2 a3 a4 (gfold_ok h6) (fun env => folded_ok h6') (wk_ok h4) (wk_ok h4') (own_ok h5) (own_ok h5')) (fun _ => rfl) (fun _ _ _ e => nomatch e)
    · cases h
  | nil =>
    refine ⟨fun _ h => (by cases h), fun {X c cd es} o h => ?_, fun _ h => (by cases h), fun _ e => nomatch e⟩
    have h : es.isEmpty = true := h
    cases es with
    | nil => exact ⟨rl_nil, rfl⟩
    | cons _ _ => cases h
  | cons a r iha ihr =>
    refine ⟨fun _ h => (by cases h), fun {X c cd es} o h => ?_, fun _ h => (by cases h), fun b e => by cases e; exact fun o h => (iha.e o h).1⟩
    cases es with
    | nil => cases h
    | cons e es =>
      have h : (noStar e && (chk a).e c e && (chk r).l c es) = true := h
      simp only [Bool.and_eq_true] at h
      obtain ⟨⟨h1, h2⟩, h3⟩ := h
      obtain ⟨r1, r2⟩ := ihr.l o h3
      exact ⟨rl_cons (iha.e o h2).1 r1 (star_ok h1), by rw [List.all_cons, h1, r2]; rfl⟩
  | itr a ih =>
    refine ⟨fun _ h => (by cases h), fun _ h => (by cases h), fun {X c cd tg x} o h => ?_, fun _ e => nomatch e⟩
    exact ri_itr o.K (ih.e o h).1
  | range a ih =>
    refine ⟨fun _ h => (by cases h), fun _ h => (by cases h), fun {X c cd tg x} o h => ?_, fun _ e => nomatch e⟩
    replace h : ckRange a (chk a) c tg x = true := h
    unfold ckRange at h
    split at h
    · rename_i r _ es _
      rw [Bool.and_eq_true] at h
      obtain ⟨h0, h⟩ := h
      obtain ⟨hx, hgl, hm⟩ := o.bltX h0
      subst hx
      split at h
      · rename_i e
        rw [Bool.and_eq_true] at h
        obtain ⟨b, rfl⟩ := is1_inv h.1
        obtain ⟨hl, hs⟩ := ih.l o h.2
        rw [List.all_cons, Bool.and_eq_true] at hs
        exact ri_range1 hgl hm hl (star_ok hs.1)
      · rename_i e e2
        rw [Bool.and_eq_true] at h
        obtain ⟨b, d, rfl⟩ := is2_inv h.1
        obtain ⟨hl, hs⟩ := ih.l o h.2
        rw [List.all_cons, List.all_cons, Bool.and_eq_true, Bool.and_eq_true] at hs
        have s2 : starEach [e2] X.env = [(false, eval e2 X.env)] := star_ok hs.2.1
        exact ri_range2 hgl hm hl (by rw [star_ok hs.1, s2]) s2
      · cases h
    · cases h
  | enum a ih =>
    refine ⟨fun _ h => (by cases h), fun _ h => (by cases h), fun {X c cd tg x} o h => ?_, fun _ e => nomatch e⟩
    replace h : ckEnum (chk a) c tg x = true := h
    unfold ckEnum at h
    split at h
    · simp only [Bool.and_eq_true] at h
      obtain ⟨⟨h0, h1⟩, h2⟩ := h
      obtain ⟨hx, hgl, hm⟩ := o.bltX h0
      subst hx
      exact ri_enum o.K hgl hm (rl_cons (ih.e o h2).1 rl_nil (star_ok h1)) (star_ok h1)
    · cases h
  | zip a ih =>
    refine ⟨fun _ h => (by cases h), fun _ h => (by cases h), fun {X c cd tg x} o h => ?_, fun _ e => nomatch e⟩
    replace h : ckZip (chk a) c tg x = true := h
    unfold ckZip at h
    split at h
    · rename_i e e2 _
      simp only [Bool.and_eq_true] at h
      obtain ⟨hx, hgl, hm⟩ := o.bltX h.1
      subst hx
      obtain ⟨hl, hs⟩ := ih.l o h.2
      rw [List.all_cons, List.all_cons, Bool.and_eq_true, Bool.and_eq_true] at hs
      exact ri_zip o.K hgl hm hl (star_ok hs.1) (stars_ok (by rw [List.all_cons, hs.2.1]; rfl))
    · cases h
  | _ => exact ⟨fun _ h => (by cases h), fun _ h => (by cases h), fun _ h => (by cases h), fun _ e => nomatch e⟩
end
end Mi
set_option Elab.async false
set_option linter.all false
set_option maxRecDepth 100000
set_option maxHeartbeats 4000000
/-! Mi L: the look at statements -/
namespace Mi
open PySem PySem.Spec PyProof.Rows L2

structure Cs where
  s : SC → Stmt → Bool
  b : SC → List Stmt → Bool
def Cs.no : Cs := ⟨fun _ _ => false, fun _ _ => false⟩
def Cs.ofS (f : SC → Stmt → Bool) : Cs := ⟨f, fun _ _ => false⟩
def Cs.ofB (f : SC → List Stmt → Bool) : Cs := ⟨fun _ _ => false, f⟩
def csNil : SC → List Stmt → Bool := fun _ es => es.isEmpty
def csCons (a r : Cs) : SC → List Stmt → Bool := fun c es => match es with
  | e :: es => a.s c e && r.b c es
  | _ => false
def csPass : SC → Stmt → Bool := fun _ x => match x with
  | .Pass _ => true
  | .Expr (.Constant (.str _) _ _) _ => true
  | _ => false
/-- whether a comprehension's value goes right to the name -/
def swOn (c : SC) (y : Str) (py : Pos) : Expr → Bool
  | .ListComp _ _ sc p => decide (c.sc.names.lookup y = some .local) && (py.line == p.line) && !(sc.names.any fun (n, k) => n == y && (k == .local || k == .cell))
  | _ => false
/-- .. or surely not -/
def swOff (c : SC) (y : Str) (py : Pos) : Expr → Bool
  | .ListComp _ _ sc p => !(py.line == p.line) || (sc.names.any fun (n, k) => n == y && (k == .local || k == .cell))
  | .SetComp .. => false
  | .DictComp .. => false
  | _ => true
def noTup : Expr → Bool | .Tuple .. => false | _ => true
def csAsg (t : E) (a : E) : SC → Stmt → Bool := fun c x => match x with
  | .Assign [tg] e _ => (match t with
    | .var i => (match tg with
      | .Name y py => decide (c.N[i]? = some y) && c.loc y && (swOff c y py e || swOn c y py e) && chkE a c e
      | _ => false)
    | .tup _ => chkG t c tg && noComp e && noTup e && chkE a c e
    | .idx o i => (match tg with
      | .Subscript eo ei _ => noSl ei && noComp e && noTup e && chkE o c eo && chkE i c ei && chkE a c e
      | _ => false)
    | _ => false)
  | _ => false
def csAug (i : Nat) (o : BOp) (a : E) : SC → Stmt → Bool := fun c x => match x with
  | .AugAssign (.Name y _) p e _ => augOn o && decide (p = opOf o) && decide (c.N[i]? = some y) && c.loc y && chkE a c e
  | _ => false
def csExpr (a : E) : SC → Stmt → Bool := fun c x => match x with
  | .Expr e _ => noComp e && chkE a c e
  | _ => false
def csRet (a : E) : SC → Stmt → Bool := fun c x => match x with
  | .Return (some e) _ => chkE a c e
  | _ => false
def csRetN : SC → Stmt → Bool := fun _ x => match x with
  | .Return none _ => true
  | _ => false
def csIf (q : E) (a b : Cs) : SC → Stmt → Bool := fun c x => match x with
  | .If t xs ys _ => chkE q c t && a.b c xs && b.b c ys
  | _ => false
def csFor (t it : E) (b : Cs) : SC → Stmt → Bool := fun c x => match x with
  | .For tg iter xs [] _ => wkOk it t && noSet iter && chkI it c tg iter && chkG t c tg && b.b c xs
  | _ => false
def csWhile (q : E) (b : Cs) : SC → Stmt → Bool := fun c x => match x with
  | .While t xs [] _ => chkE q c t && b.b c xs
  | _ => false
def csBrk : SC → Stmt → Bool := fun _ x => match x with | .Break _ => true | _ => false
def csCont : SC → Stmt → Bool := fun _ x => match x with | .Continue _ => true | _ => false
def chS : S → Cs
  | .nil => .ofB csNil
  | .cons a r => .ofB (csCons (chS a) (chS r))
  | .pass => .ofS csPass
  | .asg t e => .ofS (csAsg t e)
  | .aug i o e => .ofS (csAug i o e)
  | .expr e => .ofS (csExpr e)
  | .ret e => .ofS (csRet e)
  | .retN => .ofS csRetN
  | .cond q a b => .ofS (csIf q (chS a) (chS b))
  | .for_ t it b => .ofS (csFor t it (chS b))
  | .while_ q b => .ofS (csWhile q (chS b))
  | .brk => .ofS csBrk
  | .cont => .ofS csCont
  | _ => .no
termination_by structural s => s

theorem swsole_ok {tg e : Expr} {l : Nat} {env : Env} (h : noComp e = true) : swapsWithSole [tg] e l env = pure false := sw_ok (t := some tg) h
theorem asub_ok {eo ei : Expr} {tpos : Pos} {env : Env} (h : noSl ei = true) : ∀ v, assign (.Subscript eo ei tpos) env v = (do
      let ov ← holding [v] (eval eo env)
      let iv ← holding [v, ov] (eval ei env)
      standAt tpos
      holding [v, ov, iv] (setItem ov iv v)
      release [v, ov, iv] []) := by
  intro v
  cases ei <;> first | rfl | cases h
theorem swst_ok {tg e : Expr} {env : Env} (h : noTup e = true) : swappedStores [tg] e env = pure none := by
  cases e <;> first | (cases h; done) | (cases tg <;> rfl)
section
variable {X : Cx} {G : Gs} {P : Pg} {cl : Cl} {k : Nat} {c : SC} {cd : Option (Addr × Addr)}
theorem swOff_ok {y : Str} {py : Pos} {e : Expr} {l : Nat} (h : swOff c y py e = true) : swapsWith e (some (.Name y py)) l X.env = pure false := by
  cases e with
  | ListComp elt gs sc p =>
    have h : (!(py.line == p.line) || (sc.names.any fun (n, k) => n == y && (k == .local || k == .cell))) = true := h
    rw [Bool.or_eq_true] at h
    unfold swapsWith
    rcases h with h | h
    · rw [Bool.not_eq_true'] at h
      show (pure (X.env.blockKind == .function && X.env.kindOf y == some .local && py.line == p.line && _) : Sem Bool) = _
      rw [h, Bool.and_false, Bool.false_and]
    · show (pure (X.env.blockKind == .function && X.env.kindOf y == some .local && py.line == p.line && !(sc.names.any fun (n, k) => n == y && (k == .local || k == .cell))) : Sem Bool) = _
      rw [h, Bool.not_true, Bool.and_false]
  | SetComp => cases h
  | DictComp => cases h
  | _ => rfl
theorem swOn_ok {y : Str} {py : Pos} {e : Expr} {l : Nat} (o : Okx X G P cl k c cd) (hk : X.env.scope.kind = .function) (h : swOn c y py e = true) : X.env.scope.names.lookup y = some .local ∧ swapsWith e (some (.Name y py)) l X.env = pure true := by
  cases e with
  | ListComp elt gs sc p =>
    have h : (decide (c.sc.names.lookup y = some .local) && (py.line == p.line) && !(sc.names.any fun (n, k) => n == y && (k == .local || k == .cell))) = true := h
    simp only [Bool.and_eq_true, decide_eq_true_eq, Bool.not_eq_true'] at h
    obtain ⟨⟨h1, h2⟩, h3⟩ := h
    have hl : X.env.scope.names.lookup y = some .local := by
      obtain ⟨k', e1, e2 | ⟨e2, _⟩⟩ := o.rel _ _ h1
      · subst e2; exact e1
      · cases e2
    exact ⟨hl, sw_true hk hl h2 h3⟩
  | _ => cases h
/-- what a looked-at statement is -/
structure Cl2 (G : Gs) (P : Pg) (cl : Cl) (k : Nat) (a : S) : Prop where
  s : ∀ {X : Cx} {c : SC} {cd : Option (Addr × Addr)} {x : Stmt}, Okx X G P cl k c cd → X.env.scope.kind = .function → (chS a).s c x = true → PS X x (RS G cd P cl a)
  b : ∀ {X : Cx} {c : SC} {cd : Option (Addr × Addr)} {es : List Stmt}, Okx X G P cl k c cd → X.env.scope.kind = .function → (chS a).b c es = true → PSs X es (RS G cd P cl a)
/-- name = [..], the value going right to the name -/
theorem setLc_ok {i : Nat} {y : Str} {py pos : Pos} {a : E} {e : Expr} (o : Okx X G P cl k c cd) (hk : X.env.scope.kind = .function) (hi : X.N[i]? = some y) (h : swOn c y py e = true) (ha : chkE a c e = true) : PS X (.Assign [.Name y py] e pos) (tAsg (RE G cd P cl a) (gName i)) := by
  obtain ⟨hl, hsw⟩ := swOn_ok (l := pos.line) o hk h
  cases e with
  | ListComp elt gs sc p =>
    cases a with
    | lc own t it q b =>
      have ha : ckLc own t it (chk it) q (chk q) (chk b) c (.ListComp elt gs sc p) = true := ha
      unfold ckLc at ha
      split at ha
      · rename_i heq
        cases heq
        simp only [Bool.and_eq_true] at ha
        obtain ⟨⟨⟨⟨⟨⟨⟨h1, h2⟩, h3⟩, h4⟩, h5⟩, h6⟩, h7⟩, h8⟩ := ha
        obtain ⟨ok, rfl⟩ := o.blkX h1
        exact rs_setLc o.calm o.nd hi hl hsw ((chk_ok it).i o h5) ok (fun s H C cs fp => (chkG_ok t).1 (o.blk s H C cs fp) h6) (fun s H C cs fp => tests_ok (fun o h => ((chk_ok q).e o h).2.1) (o.blk s H C cs fp) h8)
          (fun s H C cs fp => ((chk_ok b).e (o.blk s H C cs fp) h7).1) (folded_ok h4) (wk_ok h2) (own_ok h3)
      · cases ha
    | lc2 own t it t2 it2 q b =>
      have ha : ckLc2 own t it (chk it) t2 it2 (chk it2) q (chk q) (chk b) c (.ListComp elt gs sc p) = true := ha
      unfold ckLc2 at ha
      split at ha
      · rename_i heq
        cases heq
        simp only [Bool.and_eq_true] at ha
        obtain ⟨⟨⟨⟨⟨⟨⟨⟨⟨⟨⟨⟨h1, h2⟩, h2'⟩, h3⟩, h3'⟩, h4⟩, h4'⟩, h5⟩, h6⟩, h7⟩, h8⟩, h9⟩, h10⟩ := ha
        obtain ⟨ok, rfl⟩ := o.blkX h1
        exact rs_setLc2 o.calm o.nd hi hl hsw ((chk_ok it).i o h5) ok (fun s H C cs fp => (chkG_ok t).1 (o.blk s H C cs fp) h6) (fun s H C cs fp => ((chk_ok b).e (o.blk s H C cs fp) h9).1) (folded_ok h4)
          (fun s H C cs fp => (chk_ok it2).i (o.blk s H C cs fp) h7) (fun s H C cs fp => (chkG_ok t2).1 (o.blk s H C cs fp) h8) (fun s H C cs fp => tests_ok (fun o h => ((chk_ok q).e o h).2.1) (o.blk s H C cs fp) h10) (fun env => folded_ok h4') (wk_ok h2) (wk_ok h2') (own_ok h3) (own_ok h3')
      · cases ha
    | _ => cases ha
  | _ => cases h
theorem chS_ok (a : S) : Cl2 G P cl k a := by
  induction a with
  | nil =>
    refine ⟨fun _ _ h => (by cases h), fun {X c cd es} o hk h => ?_⟩
    have h : es.isEmpty = true := h
    cases es with
    | nil => exact rs_nil
    | cons _ _ => cases h
  | cons a r iha ihr =>
    refine ⟨fun _ _ h => (by cases h), fun {X c cd es} o hk h => ?_⟩
    cases es with
    | nil => cases h
    | cons e es =>
      have h : ((chS a).s c e && (chS r).b c es) = true := h
      rw [Bool.and_eq_true] at h
      exact rs_cons (iha.s o hk h.1) (ihr.b o hk h.2)
  | pass =>
    refine ⟨fun {X c cd x} o hk h => ?_, fun _ _ h => (by cases h)⟩
    replace h : csPass c x = true := h
    unfold csPass at h
    split at h
    · exact rs_pass
    · exact rs_doc
    · cases h
  | asg t a =>
    refine ⟨fun {X c cd x} o hk h => ?_, fun _ _ h => (by cases h)⟩
    replace h : csAsg t a c x = true := h
    unfold csAsg at h
    split at h
    · split at h
      · split at h
        · simp only [Bool.and_eq_true, decide_eq_true_eq, Bool.or_eq_true] at h
          obtain ⟨⟨⟨h1, h2⟩, h3⟩, h4⟩ := h
          obtain ⟨l1, l2⟩ := o.locX h2
          rw [← o.N] at h1
          rcases h3 with h3 | h3
          · exact rs_setOf (ps_set o.nd h1 l1 ((chk_ok a).e o h4).1 (swOff_ok h3) l2)
          · exact rs_setOf (setLc_ok o hk h1 h3 h4)
        · cases h
      · rename_i t'
        simp only [Bool.and_eq_true] at h
        obtain ⟨⟨⟨h1, h2⟩, h3⟩, h4⟩ := h
        exact rs_setT ((chk_ok a).e o h4).1 ((chkG_ok _).1 o h1) (swsole_ok h2) (swst_ok h3) (by
          have : ∀ tg, chkG (.tup t') c tg = true → (assignEach [tg] X.env).map (·.2) = [assign tg X.env] := fun tg hg => by
            unfold chkG at hg
            split at hg
            · rfl
            · cases hg
          exact this _ h1)
      · split at h
        · simp only [Bool.and_eq_true] at h
          obtain ⟨⟨⟨⟨⟨h1, h2⟩, h3⟩, h4⟩, h5⟩, h6⟩ := h
          exact rs_setI (by have := (room0 o).units; omega) ((chk_ok a).e o h6).1 ((chk_ok _).e o h4).1 ((chk_ok _).e o h5).1 (asub_ok h1) (swsole_ok h2) (swst_ok h3)
        · cases h
      · cases h
    · cases h
  | aug i p a =>
    refine ⟨fun {X c cd x} o hk h => ?_, fun _ _ h => (by cases h)⟩
    replace h : csAug i p a c x = true := h
    unfold csAug at h
    split at h
    · simp only [Bool.and_eq_true, decide_eq_true_eq] at h
      obtain ⟨⟨⟨⟨h1, h2⟩, h3⟩, h4⟩, h5⟩ := h
      subst h2
      obtain ⟨l1, l2⟩ := o.locX h4
      exact rs_aug h1 o.nd (by rw [o.N]; exact h3) l1 l2 ((chk_ok a).e o h5).1
    · cases h
  | expr a =>
    refine ⟨fun {X c cd x} o hk h => ?_, fun _ _ h => (by cases h)⟩
    replace h : csExpr a c x = true := h
    unfold csExpr at h
    split at h
    · rw [Bool.and_eq_true] at h
      exact rs_expr ((chk_ok a).e o h.2).1 (sw_ok h.1)
    · cases h
  | ret a =>
    refine ⟨fun {X c cd x} o hk h => ?_, fun _ _ h => (by cases h)⟩
    replace h : csRet a c x = true := h
    unfold csRet at h
    split at h
    · exact rs_ret ((chk_ok a).e o h).1
    · cases h
  | retN =>
    refine ⟨fun {X c cd x} o hk h => ?_, fun _ _ h => (by cases h)⟩
    replace h : csRetN c x = true := h
    unfold csRetN at h
    split at h
    · exact rs_retN
    · cases h
  | cond q a b iha ihb =>
    refine ⟨fun {X c cd x} o hk h => ?_, fun _ _ h => (by cases h)⟩
    replace h : csIf q (chS a) (chS b) c x = true := h
    unfold csIf at h
    split at h
    · simp only [Bool.and_eq_true] at h
      exact rs_if ((chk_ok q).e o h.1.1).2.1 (iha.b o hk h.1.2) (ihb.b o hk h.2)
    · cases h
  | for_ t it b ihb =>
    refine ⟨fun {X c cd x} o hk h => ?_, fun _ _ h => (by cases h)⟩
    replace h : csFor t it (chS b) c x = true := h
    unfold csFor at h
    split at h
    · simp only [Bool.and_eq_true] at h
      obtain ⟨⟨⟨⟨h1, h2⟩, h3⟩, h4⟩, h5⟩ := h
      exact rs_for (by rw [o.xe]; exact PassesOwn.never) o.calm ((chk_ok it).i o h3) ((chkG_ok t).1 o h4) (ihb.b o hk h5) (wk_ok h1) (folded_ok h2)
    · cases h
  | while_ q b ihb =>
    refine ⟨fun {X c cd x} o hk h => ?_, fun _ _ h => (by cases h)⟩
    replace h : csWhile q (chS b) c x = true := h
    unfold csWhile at h
    split at h
    · simp only [Bool.and_eq_true] at h
      exact rs_while (by rw [o.xe]; exact PassesOwn.never) ((chk_ok q).e o h.1).2.1 (ihb.b o hk h.2)
    · cases h
  | brk =>
    refine ⟨fun {X c cd x} o hk h => ?_, fun _ _ h => (by cases h)⟩
    replace h : csBrk c x = true := h
    unfold csBrk at h
    split at h
    · exact rs_brk
    · cases h
  | cont =>
    refine ⟨fun {X c cd x} o hk h => ?_, fun _ _ h => (by cases h)⟩
    replace h : csCont c x = true := h
    unfold csCont at h
    split at h
    · exact rs_cont
    · cases h
  | _ => exact ⟨fun _ _ h => (by cases h), fun _ _ h => (by cases h)⟩
end
end Mi
set_option Elab.async false
set_option linter.all false
set_option maxRecDepth 100000
set_option maxHeartbeats 4000000
/-! Mi M: the program's defs compute what the evaluator says -/
namespace Mi
open PySem PySem.Spec PyProof.Rows L2

/-- a def of the text -/
structure PF where
  name : Str
  params : Arguments
  body : List Stmt
  scope : Scope
  ps : List Str
  N : List Str
/-- the table: the defs, what the names mean -/
structure Tb where
  pf : List PF
  fs : List (Str × Nat × Nat)
  gs : List (Str × Nat)
  bs : List Str
  d : Nat
def Tb.sc (T : Tb) (p : PF) : SC := ⟨p.N, p.scope, T.fs, T.gs, T.bs, T.d⟩
/-- a def that is never run here -/
def S.isBad : S → Bool | .bad => true | _ => false
def okFn (T : Tb) (d : FunD) (p : PF) : Bool := C8.scC p.N p.ps p.scope && decide (d.ar = p.ps.length) && decide (d.n = p.N.length) && (d.body.isBad || (chS d.body).b (T.sc p) p.body)
def okFns (T : Tb) : List FunD → List PF → Bool
  | [], [] => true
  | d :: ds, p :: ps => okFn T d p && okFns T ds ps
  | _, _ => false
def okNames (P : Pg) (T : Tb) : Bool := T.fs.all fun q => match T.pf[q.2.1]?, P.funs[q.2.1]? with
  | some p, some d => decide (p.name = q.1) && decide (d.ar = q.2.2)
  | _, _ => false
theorem okFns_get {T : Tb} : ∀ {ds : List FunD} {ps : List PF} {i : Nat} {p : PF}, okFns T ds ps = true → ps[i]? = some p → ∃ d, ds[i]? = some d ∧ okFn T d p = true
  | [], [], _, _, _, h => by simp at h
  | d :: ds, q :: ps, 0, p, h, e => by
    simp only [okFns, Bool.and_eq_true] at h
    simp only [List.getElem?_cons_zero, Option.some.injEq] at e
    subst e
    exact ⟨d, rfl, h.1⟩
  | d :: ds, q :: ps, i + 1, p, h, e => by
    simp only [okFns, Bool.and_eq_true] at h
    exact okFns_get (i := i) h.2 (by simpa using e)
  | [], _ :: _, _, _, h, _ => by cases h
  | _ :: _, [], _, _, h, _ => by cases h
theorem lookup_mem {α β : Type} [BEq α] [LawfulBEq α] : ∀ {l : List (α × β)} {x : α} {y : β}, l.lookup x = some y → (x, y) ∈ l
  | [], _, _, h => by simp at h
  | (a, b) :: r, x, y, h => by
    rw [List.lookup_cons] at h
    split at h
    · rename_i e
      have := eq_of_beq e
      cases h
      subst this
      exact List.mem_cons_self ..
    · exact List.mem_cons_of_mem _ (lookup_mem h)
/-- what is known of the text's objects -/
structure Hd (G : Gs) (P : Pg) (T : Tb) (K : PySem.W.Frag) (mg : Str → Option Value) (base : Heap) : Prop where
  eqK : K = G.K
  fn : ∀ p ∈ T.pf, ∃ fa fd, L2.FunD K p.name p.name p.params p.body p.scope [] [] fa fd ∧ mg p.name = some (.ref fa) ∧ L2.Binds K fd p.ps [] ∧ ∃ c Q, fd.code = .ref c ∧ (c, Q) ∈ G.cs ∧ PySem.W.CodeHd base c Q
  bs : ∀ x, T.bs.contains x = true → mg x = none
  gs : ∀ x g, T.gs.lookup x = some g → ∃ pv v u, P.consts[g]? = some pv ∧ mg x = some u ∧ RelV v u ∧ ∀ ρ H, Rep G.K ρ H pv v
  blt : ∃ P0, base.BuiltinsAt mg P0
theorem callF_some {P : Pg} {n f : Nat} {d : FunD} {xs : List PV} {h : AH} {r : PV × AH} (hd : P.funs[f]? = some d) (e : callF P n f xs h = some r) : xs.length = d.ar := by
  cases n with
  | zero => cases e
  | succ n =>
    unfold callF at e
    rw [hd] at e
    by_cases c : xs.length = d.ar
    · exact c
    · exact absurd e (by simp [c])
theorem sr_start {G : Gs} {ρ : List Addr} {H : Hp} {d : FunD} {N : List Str} {xs : List PV} {vs : List V} (r : Reps G.K ρ H xs vs) (hn : d.n = N.length) : SR G none ρ H (startP d xs) (L2.start N vs) := by
  have hl := r.length
  refine ⟨?_, fun p h => (nomatch h), fun i x h => ?_⟩
  · unfold startP L2.start
    simp [hl, hn]
  · unfold startP at h
    unfold L2.start
    by_cases c : i < xs.length
    · rw [List.getElem?_append_left (by simpa using c), List.getElem?_map] at h
      rw [List.getElem?_append_left (by simpa [← hl] using c), List.getElem?_map]
      cases z : xs[i]? with
      | none => rw [z] at h; cases h
      | some y =>
        rw [z] at h
        cases h
        obtain ⟨v, h1, h2⟩ := r.get z
        exact ⟨v, by rw [h1]; rfl, h2⟩
    · rw [List.getElem?_append_right (by simpa using c), List.getElem?_replicate] at h
      split at h <;> cases h
section
variable {G : Gs} {P : Pg} {T : Tb} {K : PySem.W.Frag} {mg : Str → Option Value} {base : Heap} {pg : Program} {w : World}
/-- THE RULE: each def, at each measure of fuel -/
theorem prog_ok (Hh : Hd G P T K mg base) (hF : okFns T P.funs T.pf = true) (hN : okNames P T = true) : ∀ (n i : Nat) (p : PF) (d : FunD), T.pf[i]? = some p → P.funs[i]? = some d →
    ∀ fa fd, L2.FunD K p.name p.name p.params p.body p.scope [] [] fa fd → (∃ c Q, fd.code = .ref c ∧ (c, Q) ∈ G.cs ∧ PySem.W.CodeHd base c Q) → FnOk pg w K mg base CX0 ((T.d + 1) * n) fa fd p.ps (spF G d.ar (callF P n i)) := by
  intro n
  induction n with
  | zero =>
    intro i p d hp hd fa fd F hc
    obtain ⟨d', hd', ok⟩ := okFns_get hF hp
    rw [hd] at hd'
    cases hd'
    unfold okFn at ok
    simp only [Bool.and_eq_true, decide_eq_true_eq] at ok
    refine ⟨fun vs H Q E ⟨h, _⟩ => by rw [h]; exact ok.1.1.2, fun A outer s H args us vs Q E _ _ _ _ ⟨_, ρ, xs, h, v, h', _, _, e, _⟩ => (by cases e)⟩
  | succ n ih =>
    intro i p d hp hd fa fd F hc
    obtain ⟨d', hd', ok⟩ := okFns_get hF hp
    rw [hd] at hd'
    cases hd'
    unfold okFn at ok
    simp only [Bool.and_eq_true, decide_eq_true_eq] at ok
    obtain ⟨⟨⟨ok1, ok2⟩, ok3⟩, ok4⟩ := ok
    obtain ⟨oc, od, dV, kV, doc, pm, an, cdv, ct, osl, rfl, lk, hcd, _, _⟩ := F.ex
    obtain ⟨c, Q0, hc1, hc2, hc3⟩ := hc
    have hc1 : cdv = .ref c := hc1
    have S := C8.fnScope_by ok1
    have ok4 := (Bool.or_eq_true _ _).mp ok4
    have key := fn_of (CX := CX0) (P := pg) (w := w) (mg := mg) (base := base) (k := (T.d + 1) * n + T.d) (sp := spF G d.ar (callF P (n + 1) i)) lk hcd S (fun vs H Q E ⟨h, _⟩ => by rw [h]; exact ok2) ?_
    · have e : (T.d + 1) * (n + 1) = (T.d + 1) * n + T.d + 1 := by rw [Nat.mul_succ]; omega
      rw [e]
      exact key
    · intro A outer s H vs Q E hr ⟨hlen, ρ, xs, h, v, h', rp, wf, ev, g⟩
      rcases ok4 with ok4 | ok4
      · have hb : d.body = .bad := by
          cases hb : d.body <;> rw [hb] at ok4 <;> first | rfl | cases ok4
        unfold callF at ev
        rw [hd] at ev
        by_cases hl : xs.length = d.ar
        · simp only [hl, if_true, hb, evS] at ev
          cases ev
        · exact absurd ev (by simp [hl])
      refine ⟨RS G none P (callF P n) d.body, ?_, ?_⟩
      · refine PSs.nox ?_
        refine (chS_ok d.body).b (c := T.sc p) (k := (T.d + 1) * n) ?_ S.kind ok4
        exact {
          K := Hh.eqK
          N := rfl
          nd := S.nd
          calm := rfl
          rel := fun x kd h => ⟨kd, h, .inl rfl⟩
          fn := fun _ _ => rfl
          room := hr
          xe := rfl
          bs := Hh.bs
          fs := fun x f ar hx => by
            have hm := lookup_mem hx
            have := List.all_eq_true.mp hN _ hm
            dsimp only at this
            split at this
            · rename_i p' d' hp' hd'
              simp only [Bool.and_eq_true, decide_eq_true_eq] at this
              obtain ⟨t1, t2⟩ := this
              obtain ⟨fa', fd', F', m', B', C'⟩ := Hh.fn p' (List.mem_of_getElem? hp')
              refine ⟨fa', fd', p'.ps, by rw [← t1]; exact m', F'.kp, B', ?_, fun xs h r e => by rw [← t2]; exact callF_some hd' e⟩
              rw [← t2]
              exact ih f p' d' hp' hd' fa' fd' F' C'
            · cases this
          gs := fun x g hx => Hh.gs x g hx
          code := ⟨c, Q0, hc1, .inl ⟨rfl, hc2, hc3⟩⟩
          blt := Hh.blt }
      · unfold callF at ev
        rw [hd] at ev
        by_cases hl : xs.length = d.ar
        · simp only [hl, if_true] at ev
          split at ev
          · rename_i r σ' h1 e1
            cases ev
            exact ⟨ρ, _, h, _, _, sr_start rp ok3, wf, e1, fun σ2 H2 ρ2 x2 w2 s2 u ru => g u H2 ρ2 x2 w2 ru⟩
          · rename_i σ' h1 e1
            cases ev
            exact ⟨ρ, _, h, _, _, sr_start rp ok3, wf, e1, fun σ2 H2 ρ2 x2 w2 s2 => g .non H2 ρ2 x2 w2 .non⟩
          · cases ev
        · exact absurd ev (by simp [hl])
end
end Mi
set_option Elab.async false
set_option linter.all false
set_option maxRecDepth 100000
set_option maxHeartbeats 4000000
/-! Mj A: the law's end -/
namespace Mi
open PySem PySem.Spec PyProof.Rows L2

def dd (p : PF) : He.DefD := ⟨(p.name, none), p.name, p.name, p.params, p.body, p.scope, [], []⟩
def tfOf (T : Tb) : List He.Defn := T.pf.map fun p => (p.name, none)
def csOf (T : Tb) (K : PySem.W.Frag) : List (Addr × Addr) := (tfOf T).map (He.cT K)
def gsOf (T : Tb) (K : PySem.W.Frag) (xc : Addr → Prop) : Gs := ⟨K, csOf T K, fun _ => 0, fun _ => Str.empty, xc⟩
theorem reps_ints {K : PySem.W.Frag} {ρ : List Addr} {H : Hp} : ∀ ns : List Int, Reps K ρ H (ns.map PV.int) (ns.map V.int)
  | [] => .nil
  | n :: ns => .cons (.int n) (reps_ints ns)
theorem ct_init {cs : List (Addr × Addr)} {H : Hp} (h : ∀ p ∈ cs, H p.2 = some (.tbl #[])) : CT (fun c => H c ≠ none) cs H :=
  ⟨fun p hp => ⟨#[], h p hp, trivial, fun pos cv e => by simp [codeAmong] at e⟩, fun c P ⟨e, n⟩ => absurd (show H c ≠ none by rw [e]; simp) n, fun c h => h⟩
/-- the law's promise, in plain words -/
def Plain (P : Pg) (n i m : Nat) : Prop := ∀ ns : List Int, ns.length ≤ m → (∀ z ∈ ns, Builtin.Int.intBits z ≤ 1048576) → ∀ (x : PV) (h : AH), seqOf x h = some (ns.map PV.int) → ∃ h', callF P n i [x] h = some (.bl true, h')
/-- the law's reading: whatever stands first -/
def spW (T : Tb) (K : PySem.W.Frag) (P : Pg) (n i : Nat) : Sp := fun vs H Q E => ∃ xc, spF (gsOf T K xc) 1 (callF P n i) vs H Q E
theorem sp_law {T : Tb} {K : PySem.W.Frag} {P : Pg} {n i m : Nat} {E : XK} (hp : Plain P n i m) {H : Hp} {a : Addr} {ns : List Int} (hl : ns.length ≤ m) (hb : ∀ z ∈ ns, Builtin.Int.intBits z ≤ 1048576) (hH : ∀ p ∈ csOf T K, H p.2 = some (.tbl #[])) (hS : SqL K H a (ns.map V.int)) :
    spW T K P n i [.ref a] H (fun v _ => v = .bl true) E := by
  refine ⟨fun c => H c ≠ none, rfl, ?_⟩
  have go : ∀ ρ h', Go (gsOf T K fun c => H c ≠ none) ρ H h' (.bl true) (fun v _ => v = .bl true) := fun ρ h' u H' ρ' _ _ r => r.bl_of
  have scr : ScrK K H a (ns.map V.int) → ∃ ρ xs h v h', Reps (gsOf T K fun c => H c ≠ none).K ρ H xs [V.ref a] ∧ Wf (gsOf T K fun c => H c ≠ none) ρ h H ∧ callF P n i xs h = some (v, h') ∧ Go (gsOf T K fun c => H c ≠ none) ρ H h' v (fun v _ => v = .bl true) := fun s => by
    obtain ⟨h', e⟩ := hp ns hl hb (.lis (ns.map .int)) [] rfl
    exact ⟨[], [.lis (ns.map .int)], [], _, h', .cons (.lis s (reps_ints ns)) .nil, ⟨rfl, fun l o a h => by simp at h, fun l l' a h => by simp at h, ct_init hH⟩, e, go _ _⟩
  rcases hS with (hS | ⟨o, hS⟩) | hS
  · obtain ⟨h', e⟩ := hp ns hl hb (.ref 0) [.lst (ns.map .int)] rfl
    refine ⟨[a], [.ref 0], [.lst (ns.map .int)], _, h', .cons (.ref rfl) .nil, ⟨rfl, fun l o b h1 h2 => ?_, fun l l' b h1 h2 _ _ => ?_, ct_init hH⟩, e, go _ _⟩
    · cases l with
      | zero =>
        simp only [List.getElem?_cons_zero, Option.some.injEq] at h1 h2
        subst h1; subst h2
        exact ⟨_, hS, reps_ints ns⟩
      | succ l => simp at h1
    · cases l with
      | zero => cases l' with
        | zero => rfl
        | succ l' => simp at h2
      | succ l => simp at h1
  · exact scr (.inl ⟨o, hS⟩)
  · exact scr (.inr hS)
theorem law_at {l : PySem.W.OpenLaw} {w : World} {K : PySem.W.Frag} {h : Heap} {mg : Str → Option Value} {fa : Addr} {x : Str} {n i m : Nat} {T : Tb} {P : Pg} {p : PF} {d : FunD} {fa0 : List He.Fa} {ts : List He.Tab} {ex : PySem.W.Frag → Bool}
    (c : He.SaysX fa0 (T.pf.map dd) ts (tfOf T) ex w h K) (X : K.In h) (Gn : h.Ns mainGlobals mg) (hglo : ∀ p ∈ T.pf, He.Fa.glo p.name ∈ fa0) (hfree : ∀ y ∈ T.bs, He.Fa.free y ∈ fa0)
    (hbi : ∀ p ∈ T.pf, ∀ (kV doc pm : Value) (an : Option Addr) (cdv ct : Value) (us : List Value), us.length = p.ps.length → bindArgs (PySem.W.fnOf p.name p.name p.params p.body p.scope .none kV doc pm an cdv ct) ⟨us, []⟩ = pure (p.ps.zip us))
    (hgs : ∀ x g, T.gs.lookup x = some g → ∃ pv v u, P.consts[g]? = some pv ∧ mg x = some u ∧ RelV v u ∧ ∀ ρ H, Rep K ρ H pv v)
    (hF : okFns T P.funs T.pf = true) (hN : okNames P T = true) (hp : T.pf[i]? = some p) (hd : P.funs[i]? = some d) (har : d.ar = 1) (hps : p.ps = [x]) (hmg : mg p.name = some (.ref fa)) (plain : Plain P n i m) : LamX.LawAtS l w K CX0 ((T.d + 1) * n) m x mg fa h := by
  have hpm : p ∈ T.pf := List.mem_of_getElem? hp
  have glo : ∀ p ∈ T.pf, mg p.name = some (.ref (He.fAd K (p.name, none))) := fun p hp => He.glo_ok X Gn (c.t.d.facts (hglo p hp))
  have bin : ∀ p ∈ T.pf, ∃ fd, L2.FunD K p.name p.name p.params p.body p.scope [] [] (He.fAd K (p.name, none)) fd := fun p hp => c.t.d.defs (d := dd p) (List.mem_map.mpr ⟨p, hp, rfl⟩)
  have cmem : ∀ p ∈ T.pf, He.cT K (p.name, none) ∈ csOf T K := fun p hp => List.mem_map.mpr ⟨_, List.mem_map.mpr ⟨p, hp, rfl⟩, rfl⟩
  have hd0 : ∀ q ∈ csOf T K, PySem.W.codeHdIn K q.1 q.2 = true := fun q hq => by
    obtain ⟨r, hr, rfl⟩ := List.mem_map.mp hq
    exact c.hd r hr
  obtain ⟨fd, F⟩ := bin p hpm
  have e := hmg.symm.trans (glo p hpm)
  have e : fa = He.fAd K (p.name, none) := by
    have e := Option.some.inj e
    injection e
  subst e
  refine ⟨fd, csOf T K, spW T K P n i, fun q hq => ?_, fun q hq => ?_, fun q hq => PySem.W.codeHd_of_K X (hd0 q hq), fun s u => ?_, fun H a ns hl hb hH hS => sp_law plain hl hb hH hS, fun base XB GB TB => ?_⟩
  · obtain ⟨r, hr, rfl⟩ := List.mem_map.mp hq
    exact c.empty r hr
  · obtain ⟨r, hr, rfl⟩ := List.mem_map.mp hq
    exact c.out r hr
  · have := FunD.bindsA F (hbi p hpm) s [u] (by rw [hps]; rfl)
    rw [hps] at this
    exact this
  · have key : ∀ xc, FnOk l.prog w K mg base CX0 ((T.d + 1) * n) (He.fAd K (p.name, none)) fd p.ps (spF (gsOf T K xc) d.ar (callF P n i)) := fun xc => by
      have code : ∀ p ∈ T.pf, ∀ fd, L2.FunD K p.name p.name p.params p.body p.scope [] [] (He.fAd K (p.name, none)) fd → ∃ c Q, fd.code = .ref c ∧ (c, Q) ∈ csOf T K ∧ PySem.W.CodeHd base c Q := fun p hp fd F => by
        obtain ⟨oc, od, dV, kV, doc, pm, an, cdv, ct, osl, rfl, lk, hcd, _, _⟩ := F.ex
        obtain ⟨c1, rfl⟩ := He.codeIn_ref hcd
        have e1 : He.codeOf K (p.name, none) = c1 := He.codeOf_eq lk rfl
        have hm := cmem p hp
        refine ⟨c1, He.tabOf K c1, rfl, ?_, ?_⟩
        · have : He.cT K (p.name, none) = (c1, He.tabOf K c1) := by unfold He.cT; rw [e1]
          rw [← this]; exact hm
        · have := hd0 _ hm
          unfold He.cT at this
          rw [e1] at this
          exact PySem.W.codeHd_of_K XB this
      have Hh : Hd (gsOf T K xc) P T K mg base := {
        eqK := rfl
        fn := fun q hq => by
          obtain ⟨fd, F⟩ := bin q hq
          exact ⟨_, fd, F, glo q hq, F.bindsN (hbi q hq), code q hq fd F⟩
        bs := fun y hy => He.free_ok X Gn (c.t.d.facts (hfree y (by simpa using hy)))
        gs := hgs
        blt := ⟨_, (TB _ (cmem p hpm)).bm⟩ }
      exact prog_ok Hh hF hN n i p d hp hd _ fd F (code p hpm fd F)
    rw [hps] at key
    rw [har] at key
    exact ⟨fun vs H Q E ⟨xc, h⟩ => (key xc).len vs H Q E h, fun A outer s H args us vs Q E hr e0 hb hv ⟨xc, h⟩ => (key xc).run A outer s H args us vs Q E hr e0 hb hv h⟩
end Mi
set_option Elab.async false
set_option linter.all false
set_option maxRecDepth 100000
set_option maxHeartbeats 2000000
/-! Mp A: what the plain evaluator comes to, by rules -/
namespace Mi
open PySem PySem.Spec PyProof.Rows L2
section
variable (P : Pg) (cl : Cl)
def wE (e : E) (σ : Env1) (h : AH) (Q : PV → AH → Prop) : Prop := ∃ v h', evE P cl e σ h = some (v, h') ∧ Q v h'
def wL (e : E) (σ : Env1) (h : AH) (Q : List PV → AH → Prop) : Prop := ∃ v h', evL P cl e σ h = some (v, h') ∧ Q v h'
def wI (e : E) (σ : Env1) (h : AH) (Q : It1 → AH → Prop) : Prop := ∃ v h', evI P cl e σ h = some (v, h') ∧ Q v h'
/-- falls through, or returns -/
def wS (s : S) (σ : Env1) (h : AH) (N : Env1 → AH → Prop) (R : PV → AH → Prop) : Prop := ∃ f σ' h', evS P cl s σ h = some ((f, σ'), h') ∧ match f with
  | .nx => N σ' h' | .ret v => R v h' | _ => False
/-- a call's outcome -/
def wC (f : Nat) (xs : List PV) (h : AH) (Q : PV → AH → Prop) : Prop := ∃ v h', cl f xs h = some (v, h') ∧ Q v h'
/-- the truth of a value -/
def wT (x : PV) (h : AH) (Q : Bool → Prop) : Prop := ∃ b, truth x h = some b ∧ Q b
/-- an outcome -/
def wR (r : Res PV) (Q : PV → AH → Prop) : Prop := ∃ v h', r = some (v, h') ∧ Q v h'
def wV (r : Option PV) (Q : PV → Prop) : Prop := ∃ v, r = some v ∧ Q v
def wB (r : Option Bool) (Q : Bool → Prop) : Prop := ∃ v, r = some v ∧ Q v
def wG (r : Option (Option PV)) (Q : PV → Prop) : Prop := ∃ v, r = some (some v) ∧ Q v
def wX (r : Option Env1) (Q : Env1 → Prop) : Prop := ∃ v, r = some v ∧ Q v
end
section
variable {P : Pg} {cl : Cl} {σ : Env1} {h : AH} {Q : PV → AH → Prop} {QL : List PV → AH → Prop} {QI : It1 → AH → Prop} {a b c : E}
theorem wR_some {v : PV} {h' : AH} : wR (some (v, h')) Q ↔ Q v h' := ⟨fun ⟨_, _, e, q⟩ => by cases e; exact q, fun q => ⟨_, _, rfl, q⟩⟩
theorem wV_some {v : PV} {Q : PV → Prop} : wV (some v) Q ↔ Q v := ⟨fun ⟨_, e, q⟩ => by cases e; exact q, fun q => ⟨_, rfl, q⟩⟩
theorem wB_some {v : Bool} {Q : Bool → Prop} : wB (some v) Q ↔ Q v := ⟨fun ⟨_, e, q⟩ => by cases e; exact q, fun q => ⟨_, rfl, q⟩⟩
theorem wG_some {v : PV} {Q : PV → Prop} : wG (some (some v)) Q ↔ Q v := ⟨fun ⟨_, e, q⟩ => by cases e; exact q, fun q => ⟨_, rfl, q⟩⟩
theorem wX_some {v : Env1} {Q : Env1 → Prop} : wX (some v) Q ↔ Q v := ⟨fun ⟨_, e, q⟩ => by cases e; exact q, fun q => ⟨_, rfl, q⟩⟩
theorem wT_of {x : PV} {b : Bool} {Q : Bool → Prop} (e : truth x h = some b) : wT x h Q ↔ Q b := ⟨fun ⟨_, e', q⟩ => by rw [e] at e'; cases e'; exact q, fun q => ⟨_, e, q⟩⟩
theorem wT_bl {b : Bool} {Q : Bool → Prop} : wT (.bl b) h Q ↔ Q b := wT_of rfl
theorem wT_int {i : Int} {Q : Bool → Prop} : wT (.int i) h Q ↔ Q (i != 0) := wT_of rfl
theorem wT_non {Q : Bool → Prop} : wT .non h Q ↔ Q false := wT_of rfl
theorem wT_tup {xs : List PV} {Q : Bool → Prop} : wT (.tup xs) h Q ↔ Q (!xs.isEmpty) := wT_of rfl
theorem wE_var {i : Nat} : wE P cl (.var i) σ h Q ↔ wG σ[i]? fun v => Q v h := by
  unfold wE evE wG
  constructor
  · rintro ⟨v, h', e, q⟩
    split at e
    · cases e; exact ⟨_, ‹_›, q⟩
    · cases e
  · rintro ⟨v, e, q⟩
    rw [e]; exact ⟨_, _, rfl, q⟩
theorem wE_non : wE P cl .non σ h Q ↔ Q .non h := wR_some
theorem wE_bl {b : Bool} : wE P cl (.bl b) σ h Q ↔ Q (.bl b) h := wR_some
theorem wE_int {i : Int} : wE P cl (.int i) σ h Q ↔ Q (.int i) h := wR_some
theorem wE_str {s : Sg} : wE P cl (.str s) σ h Q ↔ Q (.str s) h := wR_some
theorem wE_gv {g : Nat} : wE P cl (.gv g) σ h Q ↔ wV P.consts[g]? fun v => Q v h := by
  unfold wE evE wV
  constructor
  · rintro ⟨v, h', e, q⟩
    obtain ⟨w, e1, e2⟩ := Option.map_eq_some_iff.mp e
    cases e2; exact ⟨_, e1, q⟩
  · rintro ⟨v, e, q⟩
    rw [e]; exact ⟨_, _, rfl, q⟩
theorem wE_tup : wE P cl (.tup a) σ h Q ↔ wL P cl a σ h fun xs h' => xs.length ≤ SZ ∧ Q (.tup xs) h' := by
  unfold wE evE wL
  constructor
  · rintro ⟨v, h', e, q⟩
    split at e
    · split at e
      · cases e; exact ⟨_, _, ‹_›, ‹_›, q⟩
      · cases e
    · cases e
  · rintro ⟨v, h', e, l, q⟩
    rw [e]; dsimp only; rw [if_pos l]; exact ⟨_, _, rfl, q⟩
theorem wE_lst : wE P cl (.lst a) σ h Q ↔ wL P cl a σ h fun xs h' => xs.length ≤ SZ ∧ Q (.ref h'.length) (h' ++ [.lst xs]) := by
  unfold wE evE wL
  constructor
  · rintro ⟨v, h', e, q⟩
    split at e
    · split at e
      · cases e; exact ⟨_, _, ‹_›, ‹_›, q⟩
      · cases e
    · cases e
  · rintro ⟨v, h', e, l, q⟩
    rw [e]; dsimp only; rw [if_pos l]; exact ⟨_, _, rfl, q⟩
theorem wE_bin {o : BOp} : wE P cl (.bin o a b) σ h Q ↔ wE P cl a σ h fun x h1 => wE P cl b σ h1 fun y h2 => wR (pbin o x y h2) Q := by
  unfold wE wR
  constructor
  · rintro ⟨v, h', e, q⟩
    rw [evE] at e
    split at e
    · split at e
      · exact ⟨_, _, ‹_›, _, _, ‹_›, _, _, e, q⟩
      · cases e
    · cases e
  · rintro ⟨v, h', e, v2, h2, e2, v3, h3, e3, q⟩
    rw [evE, e]; dsimp only; rw [e2]; exact ⟨_, _, e3, q⟩
theorem wE_cmp {o : COp} : wE P cl (.cmp o a b) σ h Q ↔ wE P cl a σ h fun x h1 => wE P cl b σ h1 fun y h2 => wB (pcmp o x y h2) fun r => Q (.bl r) h2 := by
  unfold wE wB
  constructor
  · rintro ⟨v, h', e, q⟩
    rw [evE] at e
    split at e
    · split at e
      · obtain ⟨w, e1, e2⟩ := Option.map_eq_some_iff.mp e
        cases e2
        exact ⟨_, _, ‹_›, _, _, ‹_›, _, e1, q⟩
      · cases e
    · cases e
  · rintro ⟨v, h', e, v2, h2, e2, v3, e3, q⟩
    rw [evE, e]; dsimp only; rw [e2]; dsimp only; rw [e3]; exact ⟨_, _, rfl, q⟩
theorem wE_and : wE P cl (.and a b) σ h Q ↔ wE P cl a σ h fun x h1 => wT x h1 fun t => (t = true → wE P cl b σ h1 Q) ∧ (t = false → Q x h1) := by
  unfold wE wT
  constructor
  · rintro ⟨v, h', e, q⟩
    rw [evE] at e
    split at e
    · split at e
      · exact ⟨_, _, ‹_›, true, ‹_›, fun _ => ⟨_, _, e, q⟩, fun z => nomatch z⟩
      · cases e; exact ⟨_, _, ‹_›, false, ‹_›, (fun z => nomatch z), fun _ => q⟩
      · cases e
    · cases e
  · rintro ⟨v, h', e, t, e2, q1, q2⟩
    rw [evE, e]; dsimp only; rw [e2]
    cases t
    · exact ⟨_, _, rfl, q2 rfl⟩
    · exact q1 rfl
theorem wE_or : wE P cl (.or a b) σ h Q ↔ wE P cl a σ h fun x h1 => wT x h1 fun t => (t = false → wE P cl b σ h1 Q) ∧ (t = true → Q x h1) := by
  unfold wE wT
  constructor
  · rintro ⟨v, h', e, q⟩
    rw [evE] at e
    split at e
    · split at e
      · cases e; exact ⟨_, _, ‹_›, true, ‹_›, (fun z => nomatch z), fun _ => q⟩
      · exact ⟨_, _, ‹_›, false, ‹_›, fun _ => ⟨_, _, e, q⟩, fun z => nomatch z⟩
      · cases e
    · cases e
  · rintro ⟨v, h', e, t, e2, q1, q2⟩
    rw [evE, e]; dsimp only; rw [e2]
    cases t
    · exact q1 rfl
    · exact ⟨_, _, rfl, q2 rfl⟩
theorem wE_not : wE P cl (.not a) σ h Q ↔ wE P cl a σ h fun x h1 => wT x h1 fun t => Q (.bl (!t)) h1 := by
  unfold wE wT
  constructor
  · rintro ⟨v, h', e, q⟩
    rw [evE] at e
    split at e
    · obtain ⟨w, e1, e2⟩ := Option.map_eq_some_iff.mp e
      cases e2
      exact ⟨_, _, ‹_›, _, e1, q⟩
    · cases e
  · rintro ⟨v, h', e, t, e2, q⟩
    rw [evE, e]; dsimp only; rw [e2]; exact ⟨_, _, rfl, q⟩
theorem wE_ite : wE P cl (.ite c a b) σ h Q ↔ wE P cl c σ h fun x h1 => wT x h1 fun t => (t = true → wE P cl a σ h1 Q) ∧ (t = false → wE P cl b σ h1 Q) := by
  unfold wE wT
  constructor
  · rintro ⟨v, h', e, q⟩
    rw [evE] at e
    split at e
    · split at e
      · exact ⟨_, _, ‹_›, true, ‹_›, fun _ => ⟨_, _, e, q⟩, fun z => nomatch z⟩
      · exact ⟨_, _, ‹_›, false, ‹_›, (fun z => nomatch z), fun _ => ⟨_, _, e, q⟩⟩
      · cases e
    · cases e
  · rintro ⟨v, h', e, t, e2, q1, q2⟩
    rw [evE, e]; dsimp only; rw [e2]
    cases t
    · exact q2 rfl
    · exact q1 rfl
theorem wE_idx : wE P cl (.idx a b) σ h Q ↔ wE P cl a σ h fun x h1 => wE P cl b σ h1 fun y h2 => wV (pidx x y h2) fun v => Q v h2 := by
  unfold wE wV
  constructor
  · rintro ⟨v, h', e, q⟩
    rw [evE] at e
    split at e
    · split at e
      · obtain ⟨w, e1, e2⟩ := Option.map_eq_some_iff.mp e
        cases e2
        exact ⟨_, _, ‹_›, _, _, ‹_›, _, e1, q⟩
      · cases e
    · cases e
  · rintro ⟨v, h', e, v2, h2, e2, v3, e3, q⟩
    rw [evE, e]; dsimp only; rw [e2]; dsimp only; rw [e3]; exact ⟨_, _, rfl, q⟩
theorem wE_sl {lo hi : E} : wE P cl (.sl a lo hi) σ h Q ↔ wE P cl a σ h fun x h1 => wE P cl lo σ h1 fun y h2 => wE P cl hi σ h2 fun z h3 => ∃ l u, partQ lo y = some l ∧ partQ hi z = some u ∧ wR (psl x l u h3) Q := by
  unfold wE wR
  constructor
  · rintro ⟨v, h', e, q⟩
    rw [evE] at e
    split at e
    · split at e
      · split at e
        · split at e
          · exact ⟨_, _, ‹_›, _, _, ‹_›, _, _, ‹_›, _, _, ‹_›, ‹_›, _, _, e, q⟩
          · cases e
        · cases e
      · cases e
    · cases e
  · rintro ⟨v, h', e, v2, h2, e2, v3, h3, e3, l, u, e4, e5, w, h4, e6, q⟩
    rw [evE, e]; dsimp only; rw [e2]; dsimp only; rw [e3]; dsimp only; rw [e4, e5]; exact ⟨_, _, e6, q⟩
theorem wE_call {f : Nat} : wE P cl (.call f a) σ h Q ↔ wL P cl a σ h fun xs h1 => wC cl f xs h1 Q := by
  unfold wE wL wC
  constructor
  · rintro ⟨v, h', e, q⟩
    rw [evE] at e
    split at e
    · exact ⟨_, _, ‹_›, _, _, e, q⟩
    · cases e
  · rintro ⟨v, h', e, v2, h2, e2, q⟩
    rw [evE, e]; exact ⟨_, _, e2, q⟩
theorem wE_bi {f : Bi} : wE P cl (.bi f a) σ h Q ↔ wL P cl a σ h fun xs h1 => wR (pbi f xs h1) Q := by
  unfold wE wL wR
  constructor
  · rintro ⟨v, h', e, q⟩
    rw [evE] at e
    split at e
    · exact ⟨_, _, ‹_›, _, _, e, q⟩
    · cases e
  · rintro ⟨v, h', e, v2, h2, e2, q⟩
    rw [evE, e]; exact ⟨_, _, e2, q⟩
theorem wE_mt {m : Mt} {o : E} : wE P cl (.mt m o a) σ h Q ↔ wE P cl o σ h fun x h1 => okT m x h1 = true ∧ wL P cl a σ h1 fun xs h2 => wR (pmt m x xs h2) Q := by
  unfold wE wL wR
  constructor
  · rintro ⟨v, h', e, q⟩
    rw [evE] at e
    split at e
    · split at e
      · split at e
        · exact ⟨_, _, ‹_›, ‹_›, _, _, ‹_›, _, _, e, q⟩
        · cases e
      · cases e
    · cases e
  · rintro ⟨v, h', e, ok, v2, h2, e2, v3, h3, e3, q⟩
    rw [evE, e]; dsimp only; rw [if_pos ok, e2]; exact ⟨_, _, e3, q⟩
theorem wL_nil : wL P cl .nil σ h QL ↔ QL [] h := ⟨fun ⟨_, _, e, q⟩ => by cases e; exact q, fun q => ⟨_, _, rfl, q⟩⟩
theorem wL_cons : wL P cl (.cons a b) σ h QL ↔ wE P cl a σ h fun x h1 => wL P cl b σ h1 fun xs h2 => QL (x :: xs) h2 := by
  unfold wE wL
  constructor
  · rintro ⟨v, h', e, q⟩
    rw [evL] at e
    split at e
    · split at e
      · cases e; exact ⟨_, _, ‹_›, _, _, ‹_›, q⟩
      · cases e
    · cases e
  · rintro ⟨v, h', e, v2, h2, e2, q⟩
    rw [evL, e]; dsimp only; rw [e2]; exact ⟨_, _, rfl, q⟩
theorem wI_itr_tup {xs : List PV} (e : evE P cl a σ h = some (.tup xs, h)) : wI P cl (.itr a) σ h QI ↔ QI (.fix xs) h := by
  unfold wI; rw [evI, e]; exact ⟨fun ⟨_, _, e, q⟩ => by cases e; exact q, fun q => ⟨_, _, rfl, q⟩⟩
/-! statements -/
variable {N : Env1 → AH → Prop} {R : PV → AH → Prop} {s r : S}
theorem wS_nil (q : N σ h) : wS P cl .nil σ h N R := ⟨.nx, _, _, rfl, q⟩
theorem wS_pass (q : N σ h) : wS P cl .pass σ h N R := ⟨.nx, _, _, rfl, q⟩
theorem wS_cons (q : wS P cl s σ h (fun σ' h' => wS P cl r σ' h' N R) R) : wS P cl (.cons s r) σ h N R := by
  obtain ⟨f, σ', h', e, q⟩ := q
  cases f with
  | nx =>
    obtain ⟨f2, σ2, h2, e2, q⟩ := q
    exact ⟨f2, σ2, h2, by unfold evS; rw [e]; exact e2, q⟩
  | ret v => exact ⟨.ret v, σ', h', by unfold evS; rw [e], q⟩
  | brk => exact q.elim
  | ct => exact q.elim
def isPat : E → Bool | .idx _ _ => false | .att _ _ => false | _ => true
theorem wS_asg {t e : E} (ht : isPat t = true) (q : wE P cl e σ h fun v h' => wX (bindP t v σ) fun σ' => N σ' h') : wS P cl (.asg t e) σ h N R := by
  obtain ⟨v, h', e1, σ', e2, q⟩ := q
  refine ⟨.nx, σ', h', ?_, q⟩
  unfold evS
  rw [e1]
  cases t <;> first | (cases ht; done) | (dsimp only; rw [e2])
theorem wS_set {o i e : E} (q : wE P cl e σ h fun v h1 => wE P cl o σ h1 fun ov h2 => wE P cl i σ h2 fun iv h3 => ∃ h4, pset ov iv v h3 = some h4 ∧ N σ h4) : wS P cl (.asg (.idx o i) e) σ h N R := by
  obtain ⟨v, h1, e1, ov, h2, e2, iv, h3, e3, h4, e4, q⟩ := q
  refine ⟨.nx, σ, h4, ?_, q⟩
  unfold evS
  rw [e1]; dsimp only; rw [e2]; dsimp only; rw [e3]; dsimp only; rw [e4]; rfl
theorem wS_aug {i : Nat} {o : BOp} {e : E} {x : PV} (hx : σ[i]? = some (some x)) (q : wE P cl e σ h fun y h1 => wR (paug o x y h1) fun z h2 => N (σ.set i (some z)) h2) : wS P cl (.aug i o e) σ h N R := by
  obtain ⟨v, h1, e1, z, h2, e2, q⟩ := q
  exact ⟨.nx, _, h2, by unfold evS; rw [hx]; dsimp only; rw [e1]; dsimp only; rw [e2], q⟩
theorem wS_expr {e : E} (q : wE P cl e σ h fun _ h' => N σ h') : wS P cl (.expr e) σ h N R := by
  obtain ⟨v, h', e1, q⟩ := q
  exact ⟨.nx, σ, h', by unfold evS; rw [e1], q⟩
theorem wS_ret {e : E} (q : wE P cl e σ h R) : wS P cl (.ret e) σ h N R := by
  obtain ⟨v, h', e1, q⟩ := q
  exact ⟨.ret v, σ, h', by unfold evS; rw [e1], q⟩
theorem wS_retN (q : R .non h) : wS P cl .retN σ h N R := ⟨.ret .non, σ, h, rfl, q⟩
theorem wS_cond {e : E} (q : wE P cl e σ h fun x h1 => wT x h1 fun b => (b = true → wS P cl s σ h1 N R) ∧ (b = false → wS P cl r σ h1 N R)) : wS P cl (.cond e s r) σ h N R := by
  obtain ⟨x, h1, e1, b, e2, q1, q2⟩ := q
  cases b with
  | true =>
    obtain ⟨f, σ', h', e3, q⟩ := q1 rfl
    exact ⟨f, σ', h', by unfold evS; unfold tst; rw [e1]; dsimp only; rw [e2]; exact e3, q⟩
  | false =>
    obtain ⟨f, σ', h', e3, q⟩ := q2 rfl
    exact ⟨f, σ', h', by unfold evS; unfold tst; rw [e1]; dsimp only; rw [e2]; exact e3, q⟩
end
section
variable {P : Pg} {n i : Nat} {xs : List PV} {h : AH} {Q : PV → AH → Prop}
/-- a def's call, by its body -/
theorem wC_of {d : FunD} (hd : P.funs[i]? = some d) (ha : xs.length = d.ar) (q : wS P (callF P n) d.body (startP d xs) h (fun _ h' => Q .non h') Q) : wC (callF P (n + 1)) i xs h Q := by
  obtain ⟨f, σ', h', e, q⟩ := q
  unfold wC callF
  rw [hd]; dsimp only; rw [if_pos ha, e]
  cases f with
  | nx => exact ⟨_, _, rfl, q⟩
  | ret v => exact ⟨_, _, rfl, q⟩
  | brk => exact q.elim
  | ct => exact q.elim
end
theorem wC_mono {cl : Cl} {f : Nat} {xs : List PV} {h : AH} {Q Q' : PV → AH → Prop} (q : wC cl f xs h Q) (k : ∀ v h', Q v h' → Q' v h') : wC cl f xs h Q' := by
  obtain ⟨v, h', e, q⟩ := q; exact ⟨v, h', e, k _ _ q⟩
theorem wE_mono {P : Pg} {cl : Cl} {e : E} {σ : Env1} {h : AH} {Q Q' : PV → AH → Prop} (q : wE P cl e σ h Q) (k : ∀ v h', Q v h' → Q' v h') : wE P cl e σ h Q' := by
  obtain ⟨v, h', e, q⟩ := q; exact ⟨v, h', e, k _ _ q⟩
theorem wS_mono {P : Pg} {cl : Cl} {e : S} {σ : Env1} {h : AH} {N N' : Env1 → AH → Prop} {R R' : PV → AH → Prop} (q : wS P cl e σ h N R) (k : ∀ v h', N v h' → N' v h') (k2 : ∀ v h', R v h' → R' v h') : wS P cl e σ h N' R' := by
  obtain ⟨f, σ', h', e, q⟩ := q
  refine ⟨f, σ', h', e, ?_⟩
  cases f with
  | nx => exact k _ _ q
  | ret v => exact k2 _ _ q
  | brk => exact q
  | ct => exact q
end Mi
set_option Elab.async false
set_option linter.all false
set_option maxRecDepth 100000
set_option maxHeartbeats 2000000
/-! Mp B: loops of the plain evaluator, by rules -/
namespace Mi
open PySem PySem.Spec PyProof.Rows L2
section
variable {β : Type}
def wW (f : Step β) (i : It1) (b : β) (h : AH) (Q : β → Bool → AH → Prop) : Prop := ∃ b' z h', walk f i b h = some ((b', z), h') ∧ Q b' z h'
def wF (f : Step β) (x : PV) (b : β) (h : AH) (K : β → Bool → AH → Prop) : Prop := ∃ b' z h', f x b h = some ((b', z), h') ∧ K b' z h'
/-- what is walked are ys, as long as S stands -/
def ItOk (i : It1) (ys : List PV) (S : AH → Prop) : Prop := i = .fix ys ∨ (∃ l, i = .live false l ∧ ∀ h, S h → seqOf (.ref l) h = some ys) ∨
  (∃ l xs, i = .live true l ∧ ys = (xs.zipIdx.map fun p => .tup [.int (p.2 : Nat), p.1]) ∧ ∀ h, S h → seqOf (.ref l) h = some xs)
theorem loopF_ok {α : Type} {f : Step β} {enc : α → PV} {Inv : List α → β → AH → Prop} {Q : β → Bool → AH → Prop} {L : List α}
    (step : ∀ pre x post, L = pre ++ x :: post → ∀ b h, Inv pre b h → wF f (enc x) b h fun b' z h' => (z = true → Q b' true h') ∧ (z = false → Inv (pre ++ [x]) b' h')) (hN : ∀ b h, Inv L b h → Q b false h) :
    ∀ (post pre : List α) (b : β) (h : AH), L = pre ++ post → Inv pre b h → ∃ b' z h', loopF f (post.map enc) b h = some ((b', z), h') ∧ Q b' z h'
  | [], pre, b, h, e, i => ⟨b, false, h, rfl, hN b h (by rw [e, List.append_nil]; exact i)⟩
  | x :: post, pre, b, h, e, i => by
    obtain ⟨b', z, h', e1, q1, q2⟩ := step pre x post e b h i
    rw [List.map_cons]
    unfold loopF
    rw [e1]
    cases z with
    | true => exact ⟨_, _, _, rfl, q1 rfl⟩
    | false => exact loopF_ok step hN post (pre ++ [x]) b' h' (by rw [e]; simp) (q2 rfl)
theorem loopV_ok {α : Type} {f : Step β} {enc : α → PV} {Inv : List α → β → AH → Prop} {Q : β → Bool → AH → Prop} {L : List α} {ee : Bool} {l : Nat} {xs : List PV} (hl : ∀ pre b h, Inv pre b h → seqOf (.ref l) h = some xs)
    (hx : ∀ (i : Nat) (x : α), L[i]? = some x → ∃ y : PV, xs[i]? = some y ∧ (if ee = true then PV.tup [.int i, y] else y) = enc x) (hlen : xs.length = L.length)
    (step : ∀ pre x post, L = pre ++ x :: post → ∀ b h, Inv pre b h → wF f (enc x) b h fun b' z h' => (z = true → Q b' true h') ∧ (z = false → Inv (pre ++ [x]) b' h')) (hN : ∀ b h, Inv L b h → Q b false h) :
    ∀ (post pre : List α) (b : β) (h : AH), L = pre ++ post → Inv pre b h → ∃ b' z h', loopV f ee l post.length pre.length b h = some ((b', z), h') ∧ Q b' z h'
  | [], pre, b, h, e, i => by
    refine ⟨b, false, h, ?_, hN b h (by rw [e, List.append_nil]; exact i)⟩
    show loopV f ee l 0 pre.length b h = _
    rw [loopV, hl pre b h i]
    dsimp only
    rw [if_pos (by rw [hlen, e]; simp)]
  | x :: post, pre, b, h, e, i => by
    obtain ⟨b', z, h', e1, q1, q2⟩ := step pre x post e b h i
    obtain ⟨y, ey, ex⟩ := hx pre.length x (by rw [e]; simp)
    rw [List.length_cons, loopV, hl pre b h i]
    dsimp only
    rw [ey]
    dsimp only
    rw [ex, e1]
    cases z with
    | true => exact ⟨_, _, _, rfl, q1 rfl⟩
    | false =>
      have r := loopV_ok hl hx hlen step hN post (pre ++ [x]) b' h' (by rw [e]; simp) (q2 rfl)
      rw [List.length_append, List.length_singleton] at r
      exact r
theorem wW_ok {α : Type} {f : Step β} {enc : α → PV} {Inv : List α → β → AH → Prop} {Q : β → Bool → AH → Prop} {L : List α} {i : It1} {b : β} {h : AH} (S : AH → Prop) (hi : ItOk i (L.map enc) S) (hS : ∀ pre b h, Inv pre b h → S h) (h0 : Inv [] b h)
    (step : ∀ pre x post, L = pre ++ x :: post → ∀ b h, Inv pre b h → wF f (enc x) b h fun b' z h' => (z = true → Q b' true h') ∧ (z = false → Inv (pre ++ [x]) b' h')) (hN : ∀ b h, Inv L b h → Q b false h) :
    wW f i b h Q := by
  rcases hi with rfl | ⟨l, rfl, hl⟩ | ⟨l, xs, rfl, hx, hl⟩
  · exact loopF_ok step hN L [] b h rfl h0
  · unfold wW
    rw [walk]
    rw [hl h (hS _ _ _ h0)]
    dsimp only
    rw [List.length_map]
    exact loopV_ok (fun pre b h i => hl h (hS _ _ _ i)) (fun i x e => ⟨enc x, by rw [List.getElem?_map, e]; rfl, rfl⟩) (by simp) step hN L [] b h rfl h0
  · unfold wW
    rw [walk]
    rw [hl h (hS _ _ _ h0)]
    dsimp only
    have hlen : xs.length = L.length := by
      have := congrArg List.length hx
      simpa using this.symm
    rw [hlen]
    refine loopV_ok (fun pre b h i => hl h (hS _ _ _ i)) (fun i x e => ?_) hlen step hN L [] b h rfl h0
    have hil : i < L.length := (List.getElem?_eq_some_iff.mp e).1
    have e2 : (L.map enc)[i]? = some (enc x) := by rw [List.getElem?_map, e]; rfl
    rw [hx] at e2
    refine ⟨xs[i]'(by omega), List.getElem?_eq_getElem (by omega), ?_⟩
    rw [List.getElem?_map, List.getElem?_zipIdx, List.getElem?_eq_getElem (by omega)] at e2
    simpa using e2
theorem wF_mono {f : Step β} {x : PV} {b : β} {h : AH} {K K' : β → Bool → AH → Prop} (q : wF f x b h K) (k : ∀ b z h, K b z h → K' b z h) : wF f x b h K' := by
  obtain ⟨b', z, h', e, q⟩ := q; exact ⟨b', z, h', e, k _ _ _ q⟩
theorem wW_mono {f : Step β} {x : It1} {b : β} {h : AH} {K K' : β → Bool → AH → Prop} (q : wW f x b h K) (k : ∀ b z h, K b z h → K' b z h) : wW f x b h K' := by
  obtain ⟨b', z, h', e, q⟩ := q; exact ⟨b', z, h', e, k _ _ _ q⟩
end
section
variable {P : Pg} {cl : Cl} {σ : Env1} {h : AH} {Q : PV → AH → Prop}
/-- the bodies -/
def bLc (P : Pg) (cl : Cl) (t c e : E) (σ : Env1) : Step (List PV) := fun x acc h => match bindP t x σ with
  | some σ1 => match evE P cl c σ1 h with
    | some (b, h2) => match truth b h2 with
      | some true => match evE P cl e σ1 h2 with
        | some (v, h3) => if acc.length < SZ then some ((acc ++ [v], false), h3) else none
        | none => none
      | some false => some ((acc, false), h2)
      | none => none
    | none => none
  | none => none
def bGen (P : Pg) (cl : Cl) (k : Gc) (t c e : E) (σ : Env1) : Step (List PV) := fun x acc h => match bindP t x σ with
  | some σ1 => match evE P cl c σ1 h with
    | some (b, h2) => match truth b h2 with
      | some true => match evE P cl e σ1 h2 with
        | some (v, h3) => (eat k acc v h3).map fun r => (r, h3)
        | none => none
      | some false => some ((acc, false), h2)
      | none => none
    | none => none
  | none => none
def bTwo (P : Pg) (cl : Cl) (t it2 t2 : E) (f : Env1 → Step (List PV)) (σ : Env1) : Step (List PV) := fun x acc h => match bindP t x σ with
  | some σ0 => match evI P cl it2 σ0 h with
    | some (i2, h1) => walk (f (wipeP σ0 (tgVars t2))) i2 acc h1
    | none => none
  | none => none
variable {t c e it t2 it2 : E} {x : PV} {acc : List PV} {K : List PV → Bool → AH → Prop}
theorem wF_lc (q : ∃ σ1, bindP t x σ = some σ1 ∧ wE P cl c σ1 h fun b h2 => wT b h2 fun z => (z = true → wE P cl e σ1 h2 fun v h3 => acc.length < SZ ∧ K (acc ++ [v]) false h3) ∧ (z = false → K acc false h2)) : wF (bLc P cl t c e σ) x acc h K := by
  obtain ⟨σ1, e1, b, h2, e2, z, e3, q1, q2⟩ := q
  unfold wF bLc
  rw [e1]; dsimp only; rw [e2]; dsimp only; rw [e3]
  cases z with
  | true =>
    obtain ⟨v, h3, e4, hl, q⟩ := q1 rfl
    dsimp only; rw [e4]; dsimp only; rw [if_pos hl]
    exact ⟨_, _, _, rfl, q⟩
  | false => exact ⟨_, _, _, rfl, q2 rfl⟩
theorem wF_gen {k : Gc} (q : ∃ σ1, bindP t x σ = some σ1 ∧ wE P cl c σ1 h fun b h2 => wT b h2 fun z => (z = true → wE P cl e σ1 h2 fun v h3 => ∃ r, eat k acc v h3 = some r ∧ K r.1 r.2 h3) ∧ (z = false → K acc false h2)) : wF (bGen P cl k t c e σ) x acc h K := by
  obtain ⟨σ1, e1, b, h2, e2, z, e3, q1, q2⟩ := q
  unfold wF bGen
  rw [e1]; dsimp only; rw [e2]; dsimp only; rw [e3]
  cases z with
  | true =>
    obtain ⟨v, h3, e4, r, hr, q⟩ := q1 rfl
    dsimp only; rw [e4]; dsimp only; rw [hr]
    exact ⟨_, _, _, rfl, q⟩
  | false => exact ⟨_, _, _, rfl, q2 rfl⟩
theorem wF_two {f : Env1 → Step (List PV)} (q : ∃ σ0, bindP t x σ = some σ0 ∧ wI P cl it2 σ0 h fun i2 h1 => wW (f (wipeP σ0 (tgVars t2))) i2 acc h1 K) : wF (bTwo P cl t it2 t2 f σ) x acc h K := by
  obtain ⟨σ1, e1, i2, h1, e2, b', z, h', e3, q⟩ := q
  unfold wF bTwo
  rw [e1]; dsimp only; rw [e2]; dsimp only; rw [e3]
  exact ⟨_, _, _, rfl, q⟩
theorem wE_lc {own : List Nat} (q : wI P cl it σ h fun i h1 => wW (bLc P cl t c e (wipeP σ own)) i [] h1 fun acc _ h2 => Q (.ref h2.length) (h2 ++ [.lst acc])) : wE P cl (.lc own t it c e) σ h Q := by
  obtain ⟨i, h1, e1, acc, z, h2, e2, q⟩ := q
  refine ⟨_, _, ?_, q⟩
  rw [evE, e1]
  dsimp only
  show (match walk (bLc P cl t c e (wipeP σ own)) i [] h1 with | some ((acc, _), h2) => alloc (.lst acc) h2 | none => none) = _
  rw [e2]; rfl
theorem wE_lc2 {own : List Nat} (q : wI P cl it σ h fun i h1 => wW (bTwo P cl t it2 t2 (bLc P cl t2 c e) (wipeP σ own)) i [] h1 fun acc _ h2 => Q (.ref h2.length) (h2 ++ [.lst acc])) : wE P cl (.lc2 own t it t2 it2 c e) σ h Q := by
  obtain ⟨i, h1, e1, acc, z, h2, e2, q⟩ := q
  refine ⟨_, _, ?_, q⟩
  rw [evE, e1]
  dsimp only
  show (match walk (bTwo P cl t it2 t2 (bLc P cl t2 c e) (wipeP σ own)) i [] h1 with | some ((acc, _), h2) => alloc (.lst acc) h2 | none => none) = _
  rw [e2]; rfl
theorem wE_gen {k : Gc} {own : List Nat} (q : wI P cl it σ h fun i h1 => wW (bGen P cl k t c e (wipeP σ own)) i [] h1 fun acc _ h2 => wR (eaten k acc h2) Q) : wE P cl (.gen k own t it c e) σ h Q := by
  obtain ⟨i, h1, e1, acc, z, h2, e2, v, h3, e3, q⟩ := q
  refine ⟨v, h3, ?_, q⟩
  rw [evE, e1]
  dsimp only
  show (match walk (bGen P cl k t c e (wipeP σ own)) i [] h1 with | some ((acc, _), h2) => eaten k acc h2 | none => none) = _
  rw [e2]; exact e3
theorem wE_gen2 {k : Gc} {own : List Nat} (q : wI P cl it σ h fun i h1 => wW (bTwo P cl t it2 t2 (bGen P cl k t2 c e) (wipeP σ own)) i [] h1 fun acc _ h2 => wR (eaten k acc h2) Q) : wE P cl (.gen2 k own t it t2 it2 c e) σ h Q := by
  obtain ⟨i, h1, e1, acc, z, h2, e2, v, h3, e3, q⟩ := q
  refine ⟨v, h3, ?_, q⟩
  rw [evE, e1]
  dsimp only
  show (match walk (bTwo P cl t it2 t2 (bGen P cl k t2 c e) (wipeP σ own)) i [] h1 with | some ((acc, _), h2) => eaten k acc h2 | none => none) = _
  rw [e2]; exact e3
/-! what is walked -/
theorem wI_itr {a : E} {QI : It1 → AH → Prop} (q : wE P cl a σ h fun v h1 => (∃ xs, v = .tup xs ∧ QI (.fix xs) h1) ∨ ∃ l xs, v = .ref l ∧ seqOf (.ref l) h1 = some xs ∧ QI (.live false l) h1) : wI P cl (.itr a) σ h QI := by
  obtain ⟨v, h1, e, ⟨xs, rfl, q⟩ | ⟨l, xs, rfl, e2, q⟩⟩ := q
  · exact ⟨_, _, by rw [evI, e], q⟩
  · exact ⟨_, _, by rw [evI, e]; dsimp only; rw [e2], q⟩
theorem wI_itrT {a : E} {QI : It1 → AH → Prop} (q : wE P cl a σ h fun v h1 => ∃ xs, v = .tup xs ∧ QI (.fix xs) h1) : wI P cl (.itr a) σ h QI := by
  refine wI_itr ?_
  exact wE_mono q fun v h' z => .inl z
theorem wI_itrL {a : E} {QI : It1 → AH → Prop} (q : wE P cl a σ h fun v h1 => ∃ l xs, v = .ref l ∧ seqOf (.ref l) h1 = some xs ∧ QI (.live false l) h1) : wI P cl (.itr a) σ h QI :=
  wI_itr (wE_mono q fun v h' z => .inr z)
theorem wI_enumL {a : E} {QI : It1 → AH → Prop} (q : wE P cl a σ h fun v h1 => ∃ l xs, v = .ref l ∧ seqOf (.ref l) h1 = some xs ∧ QI (.live true l) h1) : wI P cl (.enum a) σ h QI := by
  obtain ⟨v, h1, e, l, xs, rfl, e2, q⟩ := q
  exact ⟨_, _, by rw [evI, e]; dsimp only; rw [e2], q⟩
theorem wI_enumT {a : E} {QI : It1 → AH → Prop} (q : wE P cl a σ h fun v h1 => ∃ xs, v = .tup xs ∧ QI (.fix (xs.zipIdx.map fun p => .tup [.int (p.2 : Nat), p.1])) h1) : wI P cl (.enum a) σ h QI := by
  obtain ⟨v, h1, e, xs, rfl, q⟩ := q
  exact ⟨_, _, by rw [evI, e], q⟩
theorem wI_range1 {a : E} {QI : It1 → AH → Prop} (q : wE P cl a σ h fun v h1 => ∃ j : Int, v = .int j ∧ (-(2 ^ 62) ≤ j ∧ j < 2 ^ 62) ∧ QI (.fix ((List.range j.toNat).map fun (i : Nat) => .int i)) h1) : wI P cl (.range (.cons a .nil)) σ h QI := by
  obtain ⟨v, h1, e, j, rfl, hj, q⟩ := q
  exact ⟨_, _, by rw [evI, evL, e]; dsimp only; rw [evL]; dsimp only; rw [if_pos (decide_eq_true hj)], q⟩
theorem wI_range2 {a b : E} {QI : It1 → AH → Prop} (q : wE P cl a σ h fun v h1 => wE P cl b σ h1 fun u h2 => ∃ i j : Int, v = .int i ∧ u = .int j ∧ (-(2 ^ 62) ≤ i ∧ i < 2 ^ 62 ∧ -(2 ^ 62) ≤ j ∧ j < 2 ^ 62) ∧ QI (.fix ((List.range (j - i).toNat).map fun (k : Nat) => .int (i + k))) h2) : wI P cl (.range (.cons a (.cons b .nil))) σ h QI := by
  obtain ⟨v, h1, e, u, h2, e2, i, j, rfl, rfl, hj, q⟩ := q
  exact ⟨_, _, by rw [evI, evL, e]; dsimp only; rw [evL, e2]; dsimp only; rw [evL]; dsimp only; rw [if_pos (decide_eq_true hj)], q⟩
/-! for -/
def bFor (P : Pg) (cl : Cl) (t : E) (b : S) : Step (Fl × Env1) := fun x q h => match bindP t x q.2 with
  | some σ1 => match evS P cl b σ1 h with
    | some ((.nx, σ2), h2) => some (((.nx, σ2), false), h2)
    | some ((.ct, σ2), h2) => some (((.nx, σ2), false), h2)
    | some ((.brk, σ2), h2) => some (((.nx, σ2), true), h2)
    | some ((.ret v, σ2), h2) => some (((.ret v, σ2), true), h2)
    | none => none
  | none => none
theorem wS_for {α : Type} {N : Env1 → AH → Prop} {R : PV → AH → Prop} {b : S} (L : List α) (enc : α → PV) (S : AH → Prop) (Inv : List α → Env1 → AH → Prop)
    (hi : wI P cl it σ h fun i h1 => ItOk i (L.map enc) S ∧ Inv [] σ h1) (hS : ∀ pre σ h, Inv pre σ h → S h)
    (step : ∀ pre x post, L = pre ++ x :: post → ∀ σ h, Inv pre σ h → ∃ σ1, bindP t (enc x) σ = some σ1 ∧ wS P cl b σ1 h (fun σ2 h2 => Inv (pre ++ [x]) σ2 h2) R) (hN : ∀ σ h, Inv L σ h → N σ h) : wS P cl (.for_ t it b) σ h N R := by
  obtain ⟨i, h1, e1, hok, h0⟩ := hi
  obtain ⟨q, z, h', e, hq⟩ := wW_ok (f := bFor P cl t b) (Inv := fun pre (q : Fl × Env1) h => q.1 = .nx ∧ Inv pre q.2 h) (Q := fun q z h => match q.1 with | .nx => z = false ∧ N q.2 h | .ret v => R v h | _ => False) (b := (.nx, σ)) S hok (fun pre q h i => hS _ _ _ i.2) ⟨rfl, h0⟩
    (fun pre x post e q h i => by
      obtain ⟨fl, σ0⟩ := q
      obtain ⟨rfl, i⟩ := i
      obtain ⟨σ1, e1, f, σ2, h2, e2, q⟩ := step pre x post e σ0 h i
      unfold wF bFor
      dsimp only
      rw [e1]; dsimp only; rw [e2]
      cases f with
      | nx => exact ⟨_, _, _, rfl, (fun z => nomatch z), fun _ => ⟨rfl, q⟩⟩
      | ret v => exact ⟨_, _, _, rfl, (fun _ => q), fun z => nomatch z⟩
      | brk => exact q.elim
      | ct => exact q.elim)
    (fun q h i => by
      obtain ⟨fl, σ0⟩ := q
      obtain ⟨rfl, i⟩ := i
      exact ⟨rfl, hN _ _ i⟩)
  obtain ⟨fl, σ'⟩ := q
  refine ⟨fl, σ', h', ?_, ?_⟩
  · unfold evS
    rw [e1]
    dsimp only
    change walk _ i ((.nx, σ) : Fl × Env1) h1 = _ at e
    have e : walk (bFor P cl t b) i ((.nx, σ) : Fl × Env1) h1 = _ := e
    show (match walk (bFor P cl t b) i ((.nx, σ) : Fl × Env1) h1 with | some ((r, _), h2) => some (r, h2) | none => none) = _
    rw [e]
  · cases fl with
    | nx => exact hq.2
    | ret v => exact hq
    | brk => exact hq
    | ct => exact hq
end
end Mi
set_option Elab.async false
set_option linter.all false
set_option maxRecDepth 100000
set_option maxHeartbeats 2000000
/-! Mp C: the plain evaluator's primitives, by rules -/
namespace Mi
/-! the heap goes on -/
def Hx (h0 h : AH) : Prop := ∀ (a : Nat) o, h0[a]? = some o → h[a]? = some o
theorem Hx.refl {h : AH} : Hx h h := fun _ _ e => e
theorem Hx.trans {h0 h1 h2 : AH} (a : Hx h0 h1) (b : Hx h1 h2) : Hx h0 h2 := fun x o e => b x o (a x o e)
theorem Hx.app {h0 h : AH} {t : AH} (a : Hx h0 h) : Hx h0 (h ++ t) := fun x o e => by
  have := a x o e
  rw [List.getElem?_append_left (List.getElem?_eq_some_iff.mp this).1]; exact this
theorem Hx.len {h0 h : AH} (a : Hx h0 h) : h0.length ≤ h.length := by
  by_cases z : h0.length = 0
  · omega
  · have := a (h0.length - 1) _ (List.getElem?_eq_getElem (by omega))
    have := (List.getElem?_eq_some_iff.mp this).1
    omega
theorem Hx.set {h0 h : AH} {l : Nat} {o : AO} (a : Hx h0 h) (hl : h0.length ≤ l) : Hx h0 (h.set l o) := fun x u e => by
  have hx := (List.getElem?_eq_some_iff.mp e).1
  rw [List.getElem?_set_ne (by omega)]; exact a x u e
theorem Hx.seq {h0 h : AH} (a : Hx h0 h) {x : PV} {ys : List PV} (e : seqOf x h0 = some ys) : seqOf x h = some ys := by
  cases x <;> try exact e
  rename_i l
  simp only [seqOf] at e ⊢
  cases q : h0[l]? with
  | none => rw [q] at e; cases e
  | some o => rw [a l o q]; rw [q] at e; exact e
theorem seq_new {h : AH} {xs : List PV} : seqOf (.ref h.length) (h ++ [.lst xs]) = some xs := by
  unfold seqOf; simp
theorem seq_at {h : AH} {l : Nat} {xs : List PV} (e : h[l]? = some (.lst xs)) : seqOf (.ref l) h = some xs := by
  unfold seqOf; simp [e]
theorem pbi_len {x : PV} {ys : List PV} {h : AH} (e : seqOf x h = some ys) : pbi .len [x] h = some (.int ys.length, h) := by
  cases x <;> first | (cases e; done) | (unfold pbi; simp [e])
theorem pidx_seq {x : PV} {ys : List PV} {h : AH} {i : Int} (e : seqOf x h = some ys) : pidx x (.int i) h = atP ys i := by
  cases x <;> first | (cases e; done) | (unfold pidx; simp [e])
theorem atP_nat {α : Type} {xs : List α} {k : Nat} {v : α} (e : xs[k]? = some v) : atP xs (k : Int) = some v := by
  have := (List.getElem?_eq_some_iff.mp e).1
  unfold atP L2.ixN
  rw [if_pos (by omega), if_pos (by omega)]
  simpa using e
@[simp] theorem flatEq_str (a b : Sg) : flatEq (.str a) (.str b) = decide (a = b) := rfl
theorem inP_strs (s : Sg) (ks : List Sg) : inP (.str s) (ks.map .str) = decide (s ∈ ks) := by
  unfold inP
  rw [Bool.eq_iff_iff, List.any_eq_true, decide_eq_true_iff]
  constructor
  · rintro ⟨y, hy, e⟩
    obtain ⟨k, hk, rfl⟩ := List.mem_map.mp hy
    have : k = s := by simpa using e
    rw [← this]; exact hk
  · intro h
    exact ⟨.str s, List.mem_map_of_mem h, by simp⟩
theorem pin_strs {y : PV} {h : AH} {s : Sg} {ks : List Sg} (e : seqOf y h = some (ks.map .str)) : pcmp .in_ (.str s) y h = some (decide (s ∈ ks)) := by
  unfold pcmp
  rw [e]
  dsimp only
  rw [if_pos (by simp [isFlat]), inP_strs]
theorem pnotin_strs {y : PV} {h : AH} {s : Sg} {ks : List Sg} (e : seqOf y h = some (ks.map .str)) : pcmp .notin (.str s) y h = some (!decide (s ∈ ks)) := by
  unfold pcmp
  rw [e]
  dsimp only
  rw [if_pos (by simp [isFlat]), inP_strs]


theorem okT_app {h : AH} {l : Nat} {xs : List PV} (e : h[l]? = some (.lst xs)) : okT .append (.ref l) h = true := by
  unfold okT; simp [e, Mt.ty]
theorem pmt_app {h : AH} {l : Nat} {xs : List PV} {v : PV} (e : h[l]? = some (.lst xs)) (hl : xs.length < SZ) : pmt .append (.ref l) [v] h = some (.non, h.set l (.lst (xs ++ [v]))) := by
  unfold pmt; simp [e, hl]
theorem okT_get {h : AH} {l : Nat} {xs : List (KeyP × PV)} (e : h[l]? = some (.dk xs)) : okT .get (.ref l) h = true := by
  unfold okT; simp [e, Mt.ty]
theorem pmt_get {h : AH} {l : Nat} {xs : List (KeyP × PV)} {s : Sg} {v : PV} (e : h[l]? = some (.dk xs)) : pmt .get (.ref l) [.str s, v] h = some ((lookP xs (.inr s)).getD v, h) := by
  unfold pmt; simp [e, dictOf, keyP]
theorem range_split {n : Nat} {pre post : List Nat} {x : Nat} (e : List.range n = pre ++ x :: post) : x = pre.length ∧ x < n := by
  have h : (List.range n)[pre.length]? = some x := by rw [e]; simp
  obtain ⟨h1, h2⟩ := List.getElem?_eq_some_iff.mp h
  rw [List.getElem_range] at h2
  have : x ∈ List.range n := by rw [e]; simp
  exact ⟨h2.symm, List.mem_range.mp this⟩
section
variable {i j : Int} {a b : Sg} {xs ys : List PV} {h : AH} {x : PV}
theorem pbin_add : pbin .add (.int i) (.int j) h = some (.int (i + j), h) := rfl
theorem pbin_sub : pbin .sub (.int i) (.int j) h = some (.int (i - j), h) := rfl
theorem pbin_mul (c : (small i || small j) = true) : pbin .mul (.int i) (.int j) h = some (.int (i * j), h) := by unfold pbin; simp only; rw [if_pos c]
theorem pbin_mod (c : j ≠ 0) : pbin .mod (.int i) (.int j) h = some (.int (Int.fmod i j), h) := by unfold pbin; simp [c]
theorem pbin_fdiv (c : j ≠ 0 ∧ j.natAbs < 1073741824) : pbin .fdiv (.int i) (.int j) h = some (.int (Int.fdiv i j), h) := by unfold pbin; simp [c]
theorem pbin_pow (c : 0 ≤ j ∧ j ≤ 1000000 ∧ i.natAbs < 2 ^ 64) : pbin .pow (.int i) (.int j) h = some (.int (i ^ j.toNat), h) := by unfold pbin; simp only; rw [if_pos (decide_eq_true c)]
theorem pbin_addS (c : a.length + b.length ≤ SZ) : pbin .add (.str a) (.str b) h = some (.str (a ++ b), h) := by unfold pbin; simp only; rw [if_pos c]
theorem pbin_addT (c : xs.length + ys.length ≤ SZ) : pbin .add (.tup xs) (.tup ys) h = some (.tup (xs ++ ys), h) := by unfold pbin; simp only; rw [if_pos c]
theorem pbin_addL {l m : Nat} (h1 : h[l]? = some (.lst xs)) (h2 : h[m]? = some (.lst ys)) (c : xs.length + ys.length ≤ SZ) : pbin .add (.ref l) (.ref m) h = some (.ref h.length, h ++ [.lst (xs ++ ys)]) := by
  unfold pbin alloc; simp only [h1, h2]; rw [if_pos c]
theorem pbi_int : pbi .int [.int i] h = some (.int i, h) := rfl
theorem pbi_lenT : pbi .len [.tup xs] h = some (.int xs.length, h) := rfl
theorem pbi_tupT : pbi .tuple [.tup xs] h = some (.tup xs, h) := rfl
theorem pbi_tup (e : seqOf x h = some xs) : pbi .tuple [x] h = some (.tup xs, h) := by
  cases x <;> first | (cases e; done) | (unfold pbi; simp [e])
theorem pbi_list (e : seqOf x h = some xs) : pbi .list [x] h = some (.ref h.length, h ++ [.lst xs]) := by
  cases x <;> first | (cases e; done) | (unfold pbi alloc; simp [e])
theorem isTup_tup : pbi .isTup [.tup xs] h = some (.bl true, h) := rfl
theorem isTup_str : pbi .isTup [.str a] h = some (.bl false, h) := rfl
theorem isTup_int : pbi .isTup [.int i] h = some (.bl false, h) := rfl
theorem isTup_bl {z : Bool} : pbi .isTup [.bl z] h = some (.bl false, h) := rfl
theorem isTup_non : pbi .isTup [.non] h = some (.bl false, h) := rfl
theorem isBl_bl {z : Bool} : pbi .isBool [.bl z] h = some (.bl true, h) := rfl
theorem isBl_int : pbi .isBool [.int i] h = some (.bl false, h) := rfl
theorem isBl_str : pbi .isBool [.str a] h = some (.bl false, h) := rfl
theorem isInt_int : pbi .isInt [.int i] h = some (.bl true, h) := rfl
theorem isInt_str : pbi .isInt [.str a] h = some (.bl false, h) := rfl
theorem isStr_str : pbi .isStr [.str a] h = some (.bl true, h) := rfl
theorem pcmp_lt : pcmp .lt (.int i) (.int j) h = some (decide (i < j)) := rfl
theorem pcmp_le : pcmp .le (.int i) (.int j) h = some (decide (i ≤ j)) := rfl
theorem pcmp_gt : pcmp .gt (.int i) (.int j) h = some (decide (j < i)) := rfl
theorem pcmp_ge : pcmp .ge (.int i) (.int j) h = some (decide (j ≤ i)) := rfl
theorem pcmp_eqI : pcmp .eq (.int i) (.int j) h = some (decide (i = j)) := rfl
theorem pcmp_neI : pcmp .ne (.int i) (.int j) h = some (!decide (i = j)) := rfl
theorem pcmp_eqS : pcmp .eq (.str a) (.str b) h = some (decide (a = b)) := rfl
theorem pcmp_neS : pcmp .ne (.str a) (.str b) h = some (!decide (a = b)) := rfl
theorem pcmp_eqB {y z : Bool} : pcmp .eq (.bl y) (.bl z) h = some (decide (y = z)) := rfl
theorem pcmp_isN : pcmp .is .non .non h = some true := rfl
theorem pcmp_isT : pcmp .is (.tup xs) .non h = some false := rfl
theorem pcmp_isS : pcmp .is (.str a) .non h = some false := rfl
theorem pcmp_isI : pcmp .is (.int i) .non h = some false := rfl
theorem pcmp_isB {z : Bool} : pcmp .is (.bl z) .non h = some false := rfl
theorem pcmp_isnotN : pcmp .isnot .non .non h = some false := rfl
theorem pcmp_isnotT : pcmp .isnot (.tup xs) .non h = some true := rfl
theorem pcmp_isnotS : pcmp .isnot (.str a) .non h = some true := rfl
theorem seq_tup : seqOf (.tup xs) h = some xs := rfl
theorem pidx_tup : pidx (.tup xs) (.int i) h = atP xs i := rfl
theorem atP_0 {α : Type} {x : α} {xs : List α} : atP (x :: xs) (0 : Int) = some x := atP_nat (k := 0) rfl
theorem atP_1 {α : Type} {x y : α} {xs : List α} : atP (x :: y :: xs) (1 : Int) = some y := atP_nat (k := 1) rfl
theorem atP_2 {α : Type} {x y z : α} {xs : List α} : atP (x :: y :: z :: xs) (2 : Int) = some z := atP_nat (k := 2) rfl
theorem atP_3 {α : Type} {x y z u : α} {xs : List α} : atP (x :: y :: z :: u :: xs) (3 : Int) = some u := atP_nat (k := 3) rfl
theorem small_nat {n : Nat} (c : n < 18446744073709551616) : small (n : Int) = true := by unfold small; rw [decide_eq_true_iff]; omega
theorem SZ_le {n : Nat} : (n ≤ SZ) ↔ n ≤ 16777216 := Iff.rfl
theorem SZ_lt {n : Nat} : (n < SZ) ↔ n < 16777216 := Iff.rfl
theorem bind_var {k : Nat} {σ : Env1} {v : PV} : bindP (.var k) v σ = some (σ.set k (some v)) := rfl
end
end Mi
set_option Elab.async false
set_option linter.all false
set_option maxRecDepth 100000
set_option maxHeartbeats 2000000
/-! Mp D: comprehensions that change nothing old -/
namespace Mi
section
variable {P : Pg} {cl : Cl} {σ : Env1} {h : AH} {Q : PV → AH → Prop} {α : Type} {L : List α} {enc : α → PV} {it t c e : E} {own : List Nat}
theorem lc_pure (cf : α → Bool) (g : α → PV) (hi : wI P cl it σ h fun i h1 => i = .fix (L.map enc) ∧ Hx h h1)
    (step : ∀ x ∈ L, ∀ h', Hx h h' → ∃ σ1, bindP t (enc x) (wipeP σ own) = some σ1 ∧ wE P cl c σ1 h' fun b h2 => wT b h2 fun z => z = cf x ∧ Hx h' h2 ∧ (z = true → wE P cl e σ1 h2 fun v h3 => v = g x ∧ Hx h2 h3))
    (hl : L.length ≤ SZ) (hQ : ∀ h', Hx h h' → Q (.ref h'.length) (h' ++ [.lst ((L.filter cf).map g)])) : wE P cl (.lc own t it c e) σ h Q := by
  refine wE_lc ?_
  obtain ⟨i, h1, e1, rfl, k1⟩ := hi
  refine ⟨_, h1, e1, ?_⟩
  refine wW_ok (fun _ => True) (.inl rfl) (fun _ _ _ _ => trivial) (Inv := fun pre acc h' => acc = (pre.filter cf).map g ∧ Hx h h') ⟨rfl, k1⟩ ?_ ?_
  · rintro pre x post e acc h' ⟨rfl, k⟩
    obtain ⟨σ1, b1, q⟩ := step x (by rw [e]; simp) h' k
    refine wF_lc ⟨σ1, b1, ?_⟩
    refine wE_mono q fun b h2 ⟨z, hz, e2, k2, q2⟩ => ⟨z, hz, fun hz => ?_, fun hz => ?_⟩
    · refine wE_mono (q2 hz) fun v h3 ⟨hv, k3⟩ => ⟨?_, (fun z => nomatch z), fun _ => ⟨?_, (k.trans k2).trans k3⟩⟩
      · have h1 := List.length_filter_le cf pre
        have h2 : pre.length < L.length := by rw [e]; simp
        rw [List.length_map]; omega
      · rw [List.filter_append, List.map_append, hv]
        simp [← e2, hz]
    · refine ⟨(fun z => nomatch z), fun _ => ⟨?_, k.trans k2⟩⟩
      rw [List.filter_append, List.map_append]
      simp [← e2, hz]
  · rintro acc h' ⟨rfl, k⟩
    exact hQ h' k
theorem lc2_pure {β : Type} {t2 it2 : E} (en2 : β → PV) (L2 : α → List β) (cf : α → β → Bool) (g : α → β → PV) (hi : wI P cl it σ h fun i h1 => i = .fix (L.map enc) ∧ Hx h h1)
    (step : ∀ x ∈ L, ∀ h', Hx h h' → ∃ σ0, bindP t (enc x) (wipeP σ own) = some σ0 ∧ wI P cl it2 σ0 h' fun i h1 => i = .fix ((L2 x).map en2) ∧ Hx h' h1 ∧
      ∀ y ∈ L2 x, ∀ h', Hx h1 h' → ∃ σ1, bindP t2 (en2 y) (wipeP σ0 (tgVars t2)) = some σ1 ∧ wE P cl c σ1 h' fun b h2 => wT b h2 fun z => z = cf x y ∧ Hx h' h2 ∧ (z = true → wE P cl e σ1 h2 fun v h3 => v = g x y ∧ Hx h2 h3))
    (hl : (L.flatMap L2).length ≤ SZ) (hQ : ∀ h', Hx h h' → Q (.ref h'.length) (h' ++ [.lst (L.flatMap fun x => ((L2 x).filter (cf x)).map (g x))])) : wE P cl (.lc2 own t it t2 it2 c e) σ h Q := by
  refine wE_lc2 ?_
  obtain ⟨i, h1, e1, rfl, k1⟩ := hi
  refine ⟨_, h1, e1, ?_⟩
  refine wW_ok (fun _ => True) (.inl rfl) (fun _ _ _ _ => trivial) (Inv := fun pre acc h' => acc = (pre.flatMap fun x => ((L2 x).filter (cf x)).map (g x)) ∧ acc.length ≤ (pre.flatMap L2).length ∧ Hx h h') ⟨rfl, Nat.zero_le _, k1⟩ ?_ ?_
  · rintro pre x post e acc h' ⟨hacc, hal, k⟩
    obtain ⟨σ0, b0, q⟩ := step x (by rw [e]; simp) h' k
    refine wF_two ⟨σ0, b0, ?_⟩
    obtain ⟨i, h2, e2, rfl, k2, q⟩ := q
    refine ⟨_, h2, e2, ?_⟩
    have hlen : (pre.flatMap L2).length + (L2 x).length ≤ SZ - (post.flatMap L2).length ∧ (post.flatMap L2).length ≤ SZ := by
      rw [e, List.flatMap_append, List.flatMap_cons, List.length_append, List.length_append] at hl
      omega
    refine wW_ok (fun _ => True) (.inl rfl) (fun _ _ _ _ => trivial) (Inv := fun pre2 acc2 h' => acc2 = acc ++ (pre2.filter (cf x)).map (g x) ∧ Hx h2 h') ⟨by simp, Hx.refl⟩ ?_ ?_
    · rintro pre2 y post2 e2 acc2 h3 ⟨rfl, k3⟩
      obtain ⟨σ1, b1, q1⟩ := q y (by rw [e2]; simp) h3 k3
      refine wF_lc ⟨σ1, b1, ?_⟩
      refine wE_mono q1 fun b h4 ⟨z, hz, e4, k4, q4⟩ => ⟨z, hz, fun hz => ?_, fun hz => ?_⟩
      · refine wE_mono (q4 hz) fun v h5 ⟨hv, k5⟩ => ⟨?_, (fun z => nomatch z), fun _ => ⟨?_, (k3.trans k4).trans k5⟩⟩
        · have h1 := List.length_filter_le (cf x) pre2
          have h2 : pre2.length < (L2 x).length := by rw [e2]; simp
          rw [List.length_append, List.length_map]; omega
        · rw [List.filter_append, List.map_append, hv]
          simp [← e4, hz]
      · refine ⟨(fun z => nomatch z), fun _ => ⟨?_, k3.trans k4⟩⟩
        rw [List.filter_append, List.map_append]
        simp [← e4, hz]
    · rintro acc2 h3 ⟨rfl, k3⟩
      refine ⟨(fun z => nomatch z), fun _ => ⟨?_, ?_, (k.trans k2).trans k3⟩⟩
      · rw [List.flatMap_append, ← hacc]; simp
      · have := List.length_filter_le (cf x) (L2 x)
        rw [List.flatMap_append, List.length_append, List.length_append, List.length_map, List.flatMap_cons, List.length_append]
        omega
  · rintro acc h' ⟨rfl, _, k⟩
    exact hQ h' k
theorem gen_any (f : α → Bool) (hi : wI P cl it σ h fun i h1 => i = .fix (L.map enc) ∧ Hx h h1)
    (step : ∀ x ∈ L, ∀ h', Hx h h' → ∃ σ1, bindP t (enc x) (wipeP σ own) = some σ1 ∧ wE P cl e σ1 h' fun v h2 => v = .bl (f x) ∧ Hx h' h2)
    (hQ : ∀ h', Hx h h' → Q (.bl (L.any f)) h') : wE P cl (.gen .any own t it (.bl true) e) σ h Q := by
  refine wE_gen ?_
  obtain ⟨i, h1, e1, rfl, k1⟩ := hi
  refine ⟨_, h1, e1, ?_⟩
  refine wW_ok (fun _ => True) (.inl rfl) (fun _ _ _ _ => trivial) (Inv := fun pre acc h' => acc = [] ∧ pre.any f = false ∧ Hx h h') ⟨rfl, rfl, k1⟩ ?_ ?_
  · rintro pre x post e acc h' ⟨rfl, hp, k⟩
    obtain ⟨σ1, b1, q⟩ := step x (by rw [e]; simp) h' k
    refine wF_gen ⟨σ1, b1, ?_⟩
    refine wE_bl.2 (wT_bl.2 ⟨fun _ => wE_mono q fun v h2 ⟨hv, k2⟩ => ?_, fun z => nomatch z⟩)
    subst hv
    cases hf : f x with
    | true =>
      refine ⟨_, rfl, fun _ => ?_, fun z => nomatch z⟩
      refine wR_some.2 ?_
      have := hQ h2 (k.trans k2)
      rw [e, List.any_append, List.any_cons, hf] at this
      simpa using this
    | false =>
      refine ⟨_, rfl, (fun z => nomatch z), fun _ => ⟨rfl, ?_, k.trans k2⟩⟩
      rw [List.any_append, hp]; simp [hf]
  · rintro acc h' ⟨rfl, hp, k⟩
    refine wR_some.2 ?_
    have := hQ h' k
    rw [hp] at this
    exact this
theorem gen_all (f : α → Bool) (hi : wI P cl it σ h fun i h1 => i = .fix (L.map enc) ∧ Hx h h1)
    (step : ∀ x ∈ L, ∀ h', Hx h h' → ∃ σ1, bindP t (enc x) (wipeP σ own) = some σ1 ∧ wE P cl e σ1 h' fun v h2 => v = .bl (f x) ∧ Hx h' h2)
    (hQ : ∀ h', Hx h h' → Q (.bl (L.all f)) h') : wE P cl (.gen .all own t it (.bl true) e) σ h Q := by
  refine wE_gen ?_
  obtain ⟨i, h1, e1, rfl, k1⟩ := hi
  refine ⟨_, h1, e1, ?_⟩
  refine wW_ok (fun _ => True) (.inl rfl) (fun _ _ _ _ => trivial) (Inv := fun pre acc h' => acc = [] ∧ pre.all f = true ∧ Hx h h') ⟨rfl, rfl, k1⟩ ?_ ?_
  · rintro pre x post e acc h' ⟨rfl, hp, k⟩
    obtain ⟨σ1, b1, q⟩ := step x (by rw [e]; simp) h' k
    refine wF_gen ⟨σ1, b1, ?_⟩
    refine wE_bl.2 (wT_bl.2 ⟨fun _ => wE_mono q fun v h2 ⟨hv, k2⟩ => ?_, fun z => nomatch z⟩)
    subst hv
    cases hf : f x with
    | false =>
      refine ⟨_, rfl, fun _ => ?_, fun z => nomatch z⟩
      refine wR_some.2 ?_
      have := hQ h2 (k.trans k2)
      rw [e, List.all_append, List.all_cons, hf] at this
      simpa using this
    | true =>
      refine ⟨_, rfl, (fun z => nomatch z), fun _ => ⟨rfl, ?_, k.trans k2⟩⟩
      rw [List.all_append, hp]; simp [hf]
  · rintro acc h' ⟨rfl, hp, k⟩
    refine wR_some.2 ?_
    have := hQ h' k
    rw [hp] at this
    exact this
end
end Mi
set_option Elab.async false
set_option linter.all false
set_option maxRecDepth 100000
set_option maxHeartbeats 2000000
/-! Mp E: while; sorted -/
namespace Mi
section
variable {P : Pg} {cl : Cl} {σ : Env1} {h : AH} {Q : PV → AH → Prop}
theorem wS_while {N : Env1 → AH → Prop} {R : PV → AH → Prop} {c : E} {b : S} (Inv : Nat → Env1 → AH → Prop) (m : Nat) (h0 : Inv m σ h) (hm : m < P.wf)
    (step : ∀ m σ h, Inv m σ h → wE P cl c σ h fun x h1 => wT x h1 fun z => (z = true → ∃ m', m = m' + 1 ∧ wS P cl b σ h1 (fun σ2 h2 => Inv m' σ2 h2) R) ∧ (z = false → N σ h1)) : wS P cl (.while_ c b) σ h N R := by
  have main : ∀ (k m : Nat) (σ : Env1) (h : AH), m < k → Inv m σ h → ∃ f σ' h', whileR (fun σ h => evS P cl b σ h) (fun σ h => tst (evE P cl c σ h)) k σ h = some ((f, σ'), h') ∧ match f with | .nx => N σ' h' | .ret v => R v h' | _ => False := by
    intro k
    induction k with
    | zero => intro m σ h hk; omega
    | succ k ih =>
      intro m σ h hk hi
      obtain ⟨x, h1, e1, z, e2, q1, q2⟩ := step m σ h hi
      unfold whileR
      have et : tst (evE P cl c σ h) = some (z, h1) := by unfold tst; rw [e1]; dsimp only; rw [e2]; rfl
      rw [et]
      cases z with
      | false => exact ⟨_, _, _, rfl, q2 rfl⟩
      | true =>
        obtain ⟨m', rfl, f, σ2, h2, e3, q⟩ := q1 rfl
        dsimp only
        rw [e3]
        cases f with
        | nx => exact ih m' σ2 h2 (by omega) q
        | ret v => exact ⟨_, _, _, rfl, q⟩
        | brk => exact q.elim
        | ct => exact q.elim
  obtain ⟨f, σ', h', e, q⟩ := main P.wf m σ h hm h0
  exact ⟨f, σ', h', by unfold evS; exact e, q⟩
theorem allStr_map : ∀ ks : List Sg, allStr (ks.map .str) = some ks
  | [] => rfl
  | k :: ks => by rw [List.map_cons]; unfold allStr; rw [allStr_map ks]; rfl
theorem psort_strs {ks : List Sg} (hl : ks.length < 64) : psort (ks.map .str) h = some (.ref h.length, h ++ [.lst ((sortSg ks).map .str)]) := by
  unfold psort
  rw [if_pos (by rw [List.length_map]; exact hl), allStr_map]; rfl
theorem pbi_sorted {l : Nat} {ks : List Sg} (e : h[l]? = some (.lst (ks.map .str))) (hl : ks.length < 64) : pbi .sorted [.ref l] h = some (.ref h.length, h ++ [.lst ((sortSg ks).map .str)]) := by
  unfold pbi
  simp only [seq_at e]
  exact psort_strs hl
theorem pbi_sset {l : Nat} {ks : List Sg} (e : h[l]? = some (.lst (ks.map .str))) (hl : ks.length < 64) : pbi .set [.ref l] h = some (.ref h.length, h ++ [.lst ((sortSg (onceG [] ks)).map .str)]) := by
  unfold pbi
  simp only [seq_at e]
  unfold sset
  rw [if_pos (by rw [List.length_map]; exact hl), allStr_map]; rfl
theorem onceG_mem : ∀ (xs acc : List Sg) (x : Sg), x ∈ onceG acc xs ↔ x ∈ acc ∨ x ∈ xs
  | [], acc, x => by simp [onceG]
  | y :: r, acc, x => by
    unfold onceG
    rw [onceG_mem r]
    by_cases h : y ∈ acc
    · rw [if_pos h, List.mem_cons]
      constructor
      · rintro (z | z)
        · exact .inl z
        · exact .inr (.inr z)
      · rintro (z | z | z)
        · exact .inl z
        · subst z; exact .inl h
        · exact .inr z
    · rw [if_neg h, List.mem_cons, List.mem_append, List.mem_singleton]
      constructor
      · rintro ((z | z) | z)
        · exact .inl z
        · exact .inr (.inl z)
        · exact .inr (.inr z)
      · rintro (z | z | z)
        · exact .inl (.inl z)
        · exact .inl (.inr z)
        · exact .inr z
theorem onceG_nodup : ∀ (xs acc : List Sg), acc.Nodup → (onceG acc xs).Nodup
  | [], acc, h => h
  | y :: r, acc, h => by
    unfold onceG
    refine onceG_nodup r _ ?_
    by_cases z : y ∈ acc
    · rw [if_pos z]; exact h
    · rw [if_neg z, List.nodup_append]
      exact ⟨h, by simp, fun a ha b hb e => by rw [List.mem_singleton] at hb; subst hb; subst e; exact z ha⟩
end
end Mi
set_option linter.all false
set_option maxRecDepth 100000
namespace Mi.K6
open Mi
/-- fun_of: [(0, program), (1, name), (2, own)] -/
def b0 : S :=
 (.cons (.for_ (.var 2) (.itr (.idx (.var 0) (.int (2))))
  (.cons (.cond (.cmp .eq (.idx (.var 2) (.int (0))) (.var 1))
    (.cons (.ret (.var 2))
     .nil)
    .nil)
   .nil))
 (.cons (.ret .non)
 .nil))
/-- maker_of: [(0, program), (1, maker), (2, name), (3, makers), (4, place), (5, own), (6, kinds)] -/
def b1 : S :=
 (.cons (.for_ (.tup (.cons (.var 2) (.cons (.var 3) .nil))) (.itr (.idx (.var 0) (.int (1))))
  (.cons (.for_ (.tup (.cons (.var 4) (.cons (.tup (.cons (.var 5) (.cons (.var 6) .nil))) .nil))) (.enum (.var 3))
    (.cons (.cond (.cmp .eq (.var 5) (.var 1))
      (.cons (.ret (.tup (.cons (.var 2) (.cons (.var 4) (.cons (.var 6) .nil)))))
       .nil)
      .nil)
     .nil))
   .nil))
 (.cons (.ret .non)
 .nil))
/-- makers_of: [(0, program), (1, kind)] -/
def b2 : S :=
 (.cons (.ret (.mt .get (.bi .dict (.cons (.idx (.var 0) (.int (1))) .nil)) (.cons (.var 1) (.cons (.tup .nil) .nil))))
 .nil)
/-- reached_makers: [(0, program), (1, kind), (2, kinds), (3, place), (4, _), (5, parts), (6, own), (7, maker)] -/
def b3 : S :=
 (.cons (.asg (.var 2) (.lst (.cons (.var 1) .nil)))
 (.cons (.asg (.var 3) (.int (0)))
 (.cons (.while_ (.cmp .lt (.var 3) (.bi .len (.cons (.var 2) .nil)))
  (.cons (.for_ (.tup (.cons (.var 4) (.cons (.var 5) .nil))) (.itr (.call 2 (.cons (.var 0) (.cons (.idx (.var 2) (.var 3)) .nil))))
    (.cons (.for_ (.var 6) (.itr (.var 5))
      (.cons (.cond (.cmp .notin (.var 6) (.var 2))
        (.cons (.expr (.mt .append (.var 2) (.cons (.var 6) .nil)))
         .nil)
        .nil)
       .nil))
     .nil))
   (.cons (.aug 3 .add (.int (1)))
   .nil)))
 (.cons (.ret (.bi .tuple (.cons (.gen2 .sorted [6, 7, 4] (.var 6) (.itr (.var 2)) (.tup (.cons (.var 7) (.cons (.var 4) .nil))) (.itr (.call 2 (.cons (.var 0) (.cons (.var 6) .nil)))) (.bl true) (.var 7)) .nil)))
 .nil))))
/-- body_parts: [(0, body), (1, word), (2, own), (3, row)] -/
def b4 : S :=
 (.cons (.asg (.var 1) (.idx (.var 0) (.int (0))))
 (.cons (.cond (.cmp .in_ (.var 1) (.tup (.cons (.str [110, 117, 109]) (.cons (.str [116, 114, 117, 116, 104]) (.cons (.str [118, 97, 114]) .nil)))))
  (.cons (.ret (.tup .nil))
   .nil)
  .nil)
 (.cons (.cond (.cmp .eq (.var 1) (.str [109, 97, 116, 99, 104]))
  (.cons (.asg (.var 2) (.ite (.bi .isTup (.cons (.idx (.var 0) (.int (1))) .nil)) (.tup (.cons (.idx (.var 0) (.int (1))) .nil)) (.tup .nil)))
   (.cons (.ret (.bin .add (.var 2) (.gen .tuple [3] (.var 3) (.itr (.idx (.var 0) (.int (2)))) (.bl true) (.idx (.var 3) (.int (1))))))
   .nil))
  .nil)
 (.cons (.cond (.cmp .in_ (.var 1) (.tup (.cons (.str [99, 97, 108, 108]) (.cons (.str [109, 97, 107, 101]) .nil))))
  (.cons (.ret (.gen .tuple [2] (.var 2) (.itr (.idx (.var 0) (.int (2)))) (.bi .isTup (.cons (.var 2) .nil)) (.var 2)))
   .nil)
  .nil)
 (.cons (.ret (.gen .tuple [2] (.var 2) (.itr (.sl (.var 0) (.int (1)) .non)) (.bi .isTup (.cons (.var 2) .nil)) (.var 2)))
 .nil)))))
/-- has_values: [(0, program), (1, kind), (2, tried), (3, _), (4, parts), (5, own)] -/
def b5 : S :=
 (.cons (.cond (.cmp .in_ (.var 1) (.tup (.cons (.str [110, 117, 109]) (.cons (.str [116, 114, 117, 116, 104]) .nil))))
  (.cons (.ret (.bl true))
   .nil)
  .nil)
 (.cons (.cond (.cmp .in_ (.var 1) (.var 2))
  (.cons (.ret (.bl false))
   .nil)
  .nil)
 (.cons (.ret (.gen .any [3, 4] (.tup (.cons (.var 3) (.cons (.var 4) .nil))) (.itr (.call 2 (.cons (.var 0) (.cons (.var 1) .nil)))) (.bl true) (.gen .all [5] (.var 5) (.itr (.var 4)) (.bl true) (.call 5 (.cons (.var 0) (.cons (.var 5) (.cons (.bin .add (.var 2) (.tup (.cons (.var 1) .nil))) .nil)))))))
 .nil)))
/-- first_twice: [(0, names), (1, place), (2, name)] -/
def b6 : S :=
 (.cons (.for_ (.tup (.cons (.var 1) (.cons (.var 2) .nil))) (.enum (.var 0))
  (.cons (.cond (.cmp .in_ (.var 2) (.sl (.var 0) .non (.var 1)))
    (.cons (.ret (.var 2))
     .nil)
    .nil)
   .nil))
 (.cons (.ret .non)
 .nil))
/-- top_fault: [(0, program), (1, own), (2, twice), (3, _), (4, kinds), (5, data), (6, parts), (7, kind), (8, name), (9, parameters), (10, maker), (11, part)] -/
def b7 : S :=
 (.cons (.asg (.var 2) (.call 6 (.cons (.lc [1] (.var 1) (.itr (.idx (.var 0) (.int (1)))) (.bl true) (.idx (.var 1) (.int (0)))) .nil)))
 (.cons (.cond (.cmp .isnot (.var 2) .non)
  (.cons (.ret (.tup (.cons (.str [100, 97, 116, 97, 32, 116, 119, 105, 99, 101]) (.cons (.var 2) .nil))))
   .nil)
  .nil)
 (.cons (.asg (.var 2) (.call 6 (.cons (.lc2 [1, 10, 3] (.var 1) (.itr (.idx (.var 0) (.int (1)))) (.tup (.cons (.var 10) (.cons (.var 3) .nil))) (.itr (.idx (.var 1) (.int (1)))) (.bl true) (.var 10)) .nil)))
 (.cons (.cond (.cmp .isnot (.var 2) .non)
  (.cons (.ret (.tup (.cons (.str [109, 97, 107, 101, 114, 32, 116, 119, 105, 99, 101]) (.cons (.var 2) .nil))))
   .nil)
  .nil)
 (.cons (.asg (.var 4) (.bin .add (.lst (.cons (.str [110, 117, 109]) (.cons (.str [116, 114, 117, 116, 104]) .nil))) (.lc [1] (.var 1) (.itr (.idx (.var 0) (.int (1)))) (.bl true) (.idx (.var 1) (.int (0))))))
 (.cons (.for_ (.var 5) (.itr (.idx (.var 0) (.int (1))))
  (.cons (.for_ (.tup (.cons (.var 3) (.cons (.var 6) .nil))) (.itr (.idx (.var 5) (.int (1))))
    (.cons (.for_ (.var 7) (.itr (.var 6))
      (.cons (.cond (.cmp .notin (.var 7) (.var 4))
        (.cons (.ret (.tup (.cons (.str [110, 111, 32, 115, 117, 99, 104, 32, 107, 105, 110, 100]) (.cons (.var 7) .nil))))
         .nil)
        .nil)
       .nil))
     .nil))
   .nil))
 (.cons (.for_ (.tup (.cons (.var 8) (.cons (.var 3) .nil))) (.itr (.idx (.var 0) (.int (1))))
  (.cons (.cond (.not (.call 5 (.cons (.var 0) (.cons (.var 8) (.cons (.tup .nil) .nil)))))
    (.cons (.ret (.tup (.cons (.str [110, 111, 32, 118, 97, 108, 117, 101, 115]) (.cons (.var 8) .nil))))
     .nil)
    .nil)
   .nil))
 (.cons (.asg (.var 2) (.call 6 (.cons (.lc [1] (.var 1) (.itr (.idx (.var 0) (.int (2)))) (.bl true) (.idx (.var 1) (.int (0)))) .nil)))
 (.cons (.cond (.cmp .isnot (.var 2) .non)
  (.cons (.ret (.tup (.cons (.str [102, 117, 110, 99, 116, 105, 111, 110, 32, 116, 119, 105, 99, 101]) (.cons (.var 2) .nil))))
   .nil)
  .nil)
 (.cons (.for_ (.tup (.cons (.var 8) (.cons (.var 9) (.cons (.var 7) (.cons (.var 3) .nil))))) (.itr (.idx (.var 0) (.int (2))))
  (.cons (.for_ (.var 1) (.itr (.bin .add (.lc [3, 11] (.tup (.cons (.var 3) (.cons (.var 11) .nil))) (.itr (.var 9)) (.bl true) (.var 11)) (.lst (.cons (.var 7) .nil))))
    (.cons (.cond (.cmp .notin (.var 1) (.var 4))
      (.cons (.ret (.tup (.cons (.str [110, 111, 32, 115, 117, 99, 104, 32, 107, 105, 110, 100]) (.cons (.var 1) .nil))))
       .nil)
      .nil)
     .nil))
   (.cons (.asg (.var 2) (.call 6 (.cons (.lc [1, 3] (.tup (.cons (.var 1) (.cons (.var 3) .nil))) (.itr (.var 9)) (.bl true) (.var 1)) .nil)))
   (.cons (.cond (.cmp .isnot (.var 2) .non)
    (.cons (.ret (.tup (.cons (.str [112, 97, 114, 97, 109, 101, 116, 101, 114, 32, 116, 119, 105, 99, 101]) (.cons (.var 2) .nil))))
     .nil)
    .nil)
   .nil))))
 (.cons (.ret .non)
 .nil)))))))))))
/-- pattern_names: [(0, pattern), (1, own), (2, name)] -/
def b8 : S :=
 (.cons (.cond (.cmp .eq (.idx (.var 0) (.int (0))) (.str [98, 105, 110, 100]))
  (.cons (.ret (.tup (.cons (.idx (.var 0) (.int (1))) .nil)))
   .nil)
  .nil)
 (.cons (.ret (.ite (.cmp .eq (.idx (.var 0) (.int (0))) (.str [109, 97, 107, 101])) (.gen2 .tuple [1, 2] (.var 1) (.itr (.idx (.var 0) (.int (2)))) (.var 2) (.itr (.call 8 (.cons (.var 1) .nil))) (.bl true) (.var 2)) (.tup .nil)))
 .nil))
/-- pattern_makers: [(0, pattern), (1, own), (2, row)] -/
def b9 : S :=
 (.cons (.cond (.cmp .ne (.idx (.var 0) (.int (0))) (.str [109, 97, 107, 101]))
  (.cons (.ret (.tup .nil))
   .nil)
  .nil)
 (.cons (.ret (.bin .add (.tup (.cons (.tup (.cons (.idx (.var 0) (.int (1))) (.cons (.bi .len (.cons (.idx (.var 0) (.int (2))) .nil)) .nil))) .nil)) (.gen2 .tuple [1, 2] (.var 1) (.itr (.idx (.var 0) (.int (2)))) (.var 2) (.itr (.call 9 (.cons (.var 1) .nil))) (.bl true) (.var 2))))
 .nil))
/-- pattern_fault: [(0, program), (1, pattern), (2, maker), (3, many), (4, own), (5, twice)] -/
def b10 : S :=
 (.cons (.for_ (.tup (.cons (.var 2) (.cons (.var 3) .nil))) (.itr (.call 9 (.cons (.var 1) .nil)))
  (.cons (.asg (.var 4) (.call 1 (.cons (.var 0) (.cons (.var 2) .nil))))
   (.cons (.cond (.cmp .is (.var 4) .non)
    (.cons (.ret (.tup (.cons (.str [110, 111, 32, 115, 117, 99, 104, 32, 109, 97, 107, 101, 114]) (.cons (.var 2) .nil))))
     .nil)
    .nil)
   (.cons (.cond (.cmp .ne (.bi .len (.cons (.idx (.var 4) (.int (2))) .nil)) (.var 3))
    (.cons (.ret (.tup (.cons (.str [119, 114, 111, 110, 103, 32, 110, 117, 109, 98, 101, 114]) (.cons (.var 2) .nil))))
     .nil)
    .nil)
   .nil))))
 (.cons (.asg (.var 5) (.call 6 (.cons (.call 8 (.cons (.var 1) .nil)) .nil)))
 (.cons (.ret (.ite (.cmp .is (.var 5) .non) .non (.tup (.cons (.str [110, 97, 109, 101, 32, 116, 119, 105, 99, 101]) (.cons (.var 5) .nil)))))
 .nil)))
/-- used_here: [(0, program), (1, body), (2, names), (3, word), (4, own)] -/
def b11 : S :=
 (.cons (.asg (.var 3) (.idx (.var 1) (.int (0))))
 (.cons (.cond (.and (.cmp .eq (.var 3) (.str [118, 97, 114])) (.cmp .notin (.idx (.var 1) (.int (1))) (.var 2)))
  (.cons (.ret (.tup (.cons (.str [110, 111, 32, 115, 117, 99, 104, 32, 110, 97, 109, 101]) (.cons (.idx (.var 1) (.int (1))) .nil))))
   .nil)
  .nil)
 (.cons (.cond (.cmp .eq (.var 3) (.str [99, 97, 108, 108]))
  (.cons (.asg (.var 4) (.call 0 (.cons (.var 0) (.cons (.idx (.var 1) (.int (1))) .nil))))
   (.cons (.cond (.cmp .is (.var 4) .non)
    (.cons (.ret (.tup (.cons (.str [110, 111, 32, 115, 117, 99, 104, 32, 102, 117, 110, 99, 116, 105, 111, 110]) (.cons (.idx (.var 1) (.int (1))) .nil))))
     .nil)
    .nil)
   (.cons (.ret (.ite (.cmp .eq (.bi .len (.cons (.idx (.var 4) (.int (1))) .nil)) (.bi .len (.cons (.idx (.var 1) (.int (2))) .nil))) .non (.tup (.cons (.str [119, 114, 111, 110, 103, 32, 110, 117, 109, 98, 101, 114]) (.cons (.idx (.var 1) (.int (1))) .nil)))))
   .nil)))
  .nil)
 (.cons (.cond (.cmp .eq (.var 3) (.str [109, 97, 107, 101]))
  (.cons (.asg (.var 4) (.call 1 (.cons (.var 0) (.cons (.idx (.var 1) (.int (1))) .nil))))
   (.cons (.cond (.cmp .is (.var 4) .non)
    (.cons (.ret (.tup (.cons (.str [110, 111, 32, 115, 117, 99, 104, 32, 109, 97, 107, 101, 114]) (.cons (.idx (.var 1) (.int (1))) .nil))))
     .nil)
    .nil)
   (.cons (.ret (.ite (.cmp .eq (.bi .len (.cons (.idx (.var 4) (.int (2))) .nil)) (.bi .len (.cons (.idx (.var 1) (.int (2))) .nil))) .non (.tup (.cons (.str [119, 114, 111, 110, 103, 32, 110, 117, 109, 98, 101, 114]) (.cons (.idx (.var 1) (.int (1))) .nil)))))
   .nil)))
  .nil)
 (.cons (.ret .non)
 .nil)))))
/-- body_fault: [(0, program), (1, body), (2, names), (3, own), (4, first), (5, pattern), (6, inner), (7, part)] -/
def b12 : S :=
 (.cons (.asg (.var 3) (.call 11 (.cons (.var 0) (.cons (.var 1) (.cons (.var 2) .nil)))))
 (.cons (.cond (.cmp .isnot (.var 3) .non)
  (.cons (.ret (.var 3))
   .nil)
  .nil)
 (.cons (.cond (.cmp .eq (.idx (.var 1) (.int (0))) (.str [108, 101, 116]))
  (.cons (.asg (.var 4) (.call 12 (.cons (.var 0) (.cons (.idx (.var 1) (.int (2))) (.cons (.var 2) .nil)))))
   (.cons (.ret (.ite (.cmp .isnot (.var 4) .non) (.var 4) (.call 12 (.cons (.var 0) (.cons (.idx (.var 1) (.int (3))) (.cons (.bin .add (.var 2) (.tup (.cons (.idx (.var 1) (.int (1))) .nil))) .nil))))))
   .nil))
  .nil)
 (.cons (.cond (.cmp .eq (.idx (.var 1) (.int (0))) (.str [109, 97, 116, 99, 104]))
  (.cons (.asg (.var 4) (.call 12 (.cons (.var 0) (.cons (.idx (.var 1) (.int (1))) (.cons (.var 2) .nil)))))
   (.cons (.cond (.cmp .isnot (.var 4) .non)
    (.cons (.ret (.var 4))
     .nil)
    .nil)
   (.cons (.for_ (.tup (.cons (.var 5) (.cons (.var 6) .nil))) (.itr (.idx (.var 1) (.int (2))))
    (.cons (.asg (.var 4) (.call 10 (.cons (.var 0) (.cons (.var 5) .nil))))
     (.cons (.cond (.cmp .is (.var 4) .non)
      (.cons (.asg (.var 4) (.call 12 (.cons (.var 0) (.cons (.var 6) (.cons (.bin .add (.var 2) (.call 8 (.cons (.var 5) .nil))) .nil)))))
       .nil)
      .nil)
     (.cons (.cond (.cmp .isnot (.var 4) .non)
      (.cons (.ret (.var 4))
       .nil)
      .nil)
     .nil))))
   (.cons (.ret .non)
   .nil))))
  .nil)
 (.cons (.for_ (.var 7) (.itr (.call 4 (.cons (.var 1) .nil)))
  (.cons (.asg (.var 4) (.call 12 (.cons (.var 0) (.cons (.var 7) (.cons (.var 2) .nil)))))
   (.cons (.cond (.cmp .isnot (.var 4) .non)
    (.cons (.ret (.var 4))
     .nil)
    .nil)
   .nil)))
 (.cons (.ret .non)
 .nil))))))
/-- scope_fault: [(0, program), (1, found), (2, _), (3, parameters), (4, body), (5, name)] -/
def b13 : S :=
 (.cons (.asg (.var 1) (.call 7 (.cons (.var 0) .nil)))
 (.cons (.cond (.cmp .isnot (.var 1) .non)
  (.cons (.ret (.var 1))
   .nil)
  .nil)
 (.cons (.for_ (.tup (.cons (.var 2) (.cons (.var 3) (.cons (.var 2) (.cons (.var 4) .nil))))) (.itr (.idx (.var 0) (.int (2))))
  (.cons (.asg (.var 1) (.call 12 (.cons (.var 0) (.cons (.var 4) (.cons (.gen .tuple [5, 2] (.tup (.cons (.var 5) (.cons (.var 2) .nil))) (.itr (.var 3)) (.bl true) (.var 5)) .nil)))))
   (.cons (.cond (.cmp .isnot (.var 1) .non)
    (.cons (.ret (.var 1))
     .nil)
    .nil)
   .nil)))
 (.cons (.ret .non)
 .nil))))
/-- _law_box: [(0, script), (1, first), (2, last)] -/
def b14 : S :=
 (.cons (.ret (.lst (.cons (.call 15 (.cons (.var 0) (.cons (.var 1) (.cons (.var 2) .nil)))) (.cons (.int (0)) .nil))))
 .nil)
/-- _law_digits: [(0, script), (1, first), (2, last), (3, digits), (4, k), (5, cell), (6, turn), (7, seed)] -/
def b15 : S :=
 (.cons (.asg (.var 3) (.lst .nil))
 (.cons (.for_ (.var 4) (.range (.cons (.var 1) (.cons (.var 2) .nil)))
  (.cons (.asg (.var 5) (.call 16 (.cons (.var 0) (.cons (.var 4) .nil))))
   (.cons (.cond (.cmp .lt (.var 5) (.int (0)))
    (.cons (.asg (.var 5) (.bin .sub (.int (1)) (.bin .mul (.int (2)) (.var 5))))
     .nil)
    .nil)
   (.cons (.cond (.cmp .ge (.var 5) (.bin .pow (.int (10)) (.int (18))))
    (.cons (.for_ (.var 6) (.range (.cons (.int (60)) .nil))
      (.cons (.cond (.cmp .gt (.var 5) (.int (0)))
        (.cons (.expr (.mt .append (.var 3) (.cons (.bin .mod (.bi .int (.cons (.var 5) .nil)) (.int (1000))) .nil)))
         (.cons (.asg (.var 5) (.bin .fdiv (.var 5) (.int (1000))))
         .nil))
        .nil)
       .nil))
     .nil)
    (.cons (.asg (.var 7) (.bin .mod (.bi .int (.cons (.bin .add (.bin .add (.bin .mul (.var 5) (.int (48271))) (.bin .mul (.var 4) (.int (69621)))) (.int (11))) .nil)) (.int (2147483647))))
     (.cons (.for_ (.var 6) (.range (.cons (.int (12)) .nil))
      (.cons (.asg (.var 7) (.bin .mod (.bi .int (.cons (.bin .add (.bin .add (.bin .mul (.var 7) (.int (16807))) (.bin .mul (.int (7)) (.var 6))) (.int (1))) .nil)) (.int (2147483647))))
       (.cons (.expr (.mt .append (.var 3) (.cons (.bin .mod (.bi .int (.cons (.bin .fdiv (.var 7) (.int (997))) .nil)) (.int (1000))) .nil)))
       .nil)))
     .nil)))
   .nil))))
 (.cons (.ret (.var 3))
 .nil)))
/-- _law_cell: [(0, script), (1, k)] -/
def b16 : S :=
 (.cons (.cond (.cmp .lt (.var 1) (.bi .len (.cons (.var 0) .nil)))
  (.cons (.ret (.idx (.var 0) (.var 1)))
   .nil)
  .nil)
 (.cons (.ret (.int (0)))
 .nil))
/-- _law_held: [(0, box), (1, names), (2, datas), (3, k), (4, makers), (5, j), (6, parts), (7, i)] -/
def b17 : S :=
 (.cons (.asg (.var 1) (.sl (.lst (.cons (.str [100, 97]) (.cons (.str [100, 98]) (.cons (.str [100, 99]) (.cons (.str [100, 100]) .nil))))) .non (.bin .add (.int (2)) (.call 18 (.cons (.var 0) (.cons (.int (3)) .nil))))))
 (.cons (.asg (.var 2) (.lst .nil))
 (.cons (.for_ (.var 3) (.range (.cons (.bi .len (.cons (.var 1) .nil)) .nil))
  (.cons (.asg (.var 4) (.lst .nil))
   (.cons (.for_ (.var 5) (.range (.cons (.bin .add (.int (1)) (.call 18 (.cons (.var 0) (.cons (.int (3)) .nil)))) .nil))
    (.cons (.asg (.var 6) (.bi .tuple (.cons (.lc [7] (.var 7) (.range (.cons (.call 18 (.cons (.var 0) (.cons (.int (3)) .nil))) .nil)) (.bl true) (.call 19 (.cons (.var 0) (.cons (.bin .add (.lst (.cons (.str [110, 117, 109]) (.cons (.str [116, 114, 117, 116, 104]) .nil))) (.var 1)) .nil)))) .nil)))
     (.cons (.expr (.mt .append (.var 4) (.cons (.tup (.cons (.bin .add (.idx (.lst (.cons (.str [80]) (.cons (.str [81]) (.cons (.str [82]) .nil)))) (.var 5)) (.bi .str (.cons (.var 3) .nil))) (.cons (.var 6) .nil))) .nil)))
     .nil)))
   (.cons (.expr (.mt .append (.var 2) (.cons (.tup (.cons (.idx (.var 1) (.var 3)) (.cons (.bi .tuple (.cons (.var 4) .nil)) .nil))) .nil)))
   .nil))))
 (.cons (.ret (.bi .tuple (.cons (.var 2) .nil)))
 .nil))))
/-- _law_draw: [(0, box), (1, many), (2, at)] -/
def b18 : S :=
 (.cons (.asg (.var 2) (.idx (.var 0) (.int (1))))
 (.cons (.asg (.idx (.var 0) (.int (1))) (.bin .add (.var 2) (.int (1))))
 (.cons (.cond (.cmp .lt (.var 2) (.bi .len (.cons (.idx (.var 0) (.int (0))) .nil)))
  (.cons (.ret (.bin .mod (.bi .int (.cons (.idx (.idx (.var 0) (.int (0))) (.var 2)) .nil)) (.var 1)))
   .nil)
  .nil)
 (.cons (.ret (.int (0)))
 .nil))))
/-- _law_pick: [(0, box), (1, rows)] -/
def b19 : S :=
 (.cons (.ret (.idx (.var 1) (.bin .mod (.bi .int (.cons (.call 18 (.cons (.var 0) (.cons (.int (1000)) .nil))) .nil)) (.bi .len (.cons (.var 1) .nil)))))
 .nil)
/-- _law_filled: [(0, datas), (1, without), (2, found), (3, turn), (4, name), (5, makers), (6, own), (7, maker), (8, parts), (9, part)] -/
def b20 : S :=
 (.cons (.asg (.var 2) (.lst (.cons (.str [110, 117, 109]) (.cons (.str [116, 114, 117, 116, 104]) .nil))))
 (.cons (.for_ (.var 3) (.range (.cons (.int (5)) .nil))
  (.cons (.for_ (.tup (.cons (.var 4) (.cons (.var 5) .nil))) (.itr (.var 0))
    (.cons (.asg (.var 6) (.lc [7, 8] (.tup (.cons (.var 7) (.cons (.var 8) .nil))) (.itr (.var 5)) (.cmp .eq (.bi .len (.cons (.lc [9] (.var 9) (.itr (.var 8)) (.cmp .notin (.var 9) (.var 2)) (.int (1))) .nil)) (.int (0))) (.int (1))))
     (.cons (.cond (.and (.cmp .notin (.var 4) (.var 2)) (.and (.cmp .notin (.var 4) (.var 1)) (.cmp .gt (.bi .len (.cons (.var 6) .nil)) (.int (0)))))
      (.cons (.expr (.mt .append (.var 2) (.cons (.var 4) .nil)))
       .nil)
      .nil)
     .nil)))
   .nil))
 (.cons (.ret (.var 2))
 .nil)))
/-- _law_same: [(0, actual), (1, expected), (2, k)] -/
def b21 : S :=
 (.cons (.cond (.bi .isTup (.cons (.var 1) .nil))
  (.cons (.cond (.or (.not (.bi .isTup (.cons (.var 0) .nil))) (.cmp .ne (.bi .len (.cons (.var 0) .nil)) (.bi .len (.cons (.var 1) .nil))))
    (.cons (.ret (.bl false))
     .nil)
    .nil)
   (.cons (.for_ (.var 2) (.range (.cons (.bi .len (.cons (.var 1) .nil)) .nil))
    (.cons (.cond (.not (.call 21 (.cons (.idx (.var 0) (.var 2)) (.cons (.idx (.var 1) (.var 2)) .nil))))
      (.cons (.ret (.bl false))
       .nil)
      .nil)
     .nil))
   (.cons (.ret (.bl true))
   .nil)))
  .nil)
 (.cons (.cond (.cmp .is (.var 1) .non)
  (.cons (.ret (.cmp .is (.var 0) .non))
   .nil)
  .nil)
 (.cons (.cond (.bi .isBool (.cons (.var 1) .nil))
  (.cons (.ret (.and (.bi .isBool (.cons (.var 0) .nil)) (.cmp .eq (.var 0) (.var 1))))
   .nil)
  .nil)
 (.cons (.cond (.bi .isInt (.cons (.var 1) .nil))
  (.cons (.ret (.and (.bi .isInt (.cons (.var 0) .nil)) (.and (.not (.bi .isBool (.cons (.var 0) .nil))) (.cmp .eq (.var 0) (.var 1)))))
   .nil)
  .nil)
 (.cons (.ret (.and (.bi .isStr (.cons (.var 0) .nil)) (.cmp .eq (.var 0) (.var 1))))
 .nil)))))
/-- _law_makers_in: [(0, program), (1, kind), (2, kinds), (3, turn), (4, own), (5, maker), (6, parts), (7, found), (8, part)] -/
def b22 : S :=
 (.cons (.asg (.var 2) (.lst (.cons (.var 1) .nil)))
 (.cons (.for_ (.var 3) (.range (.cons (.int (6)) .nil))
  (.cons (.for_ (.var 4) (.itr (.bi .list (.cons (.var 2) .nil)))
    (.cons (.for_ (.tup (.cons (.var 5) (.cons (.var 6) .nil))) (.itr (.mt .get (.bi .dict (.cons (.idx (.var 0) (.int (1))) .nil)) (.cons (.var 4) (.cons (.tup .nil) .nil))))
      (.cons (.asg (.var 2) (.bin .add (.var 2) (.lc [8] (.var 8) (.itr (.var 6)) (.cmp .notin (.var 8) (.var 2)) (.var 8))))
       .nil))
     .nil))
   .nil))
 (.cons (.asg (.var 7) (.lst .nil))
 (.cons (.for_ (.var 4) (.itr (.bi .set (.cons (.var 2) .nil)))
  (.cons (.asg (.var 7) (.bin .add (.var 7) (.lc [5, 6] (.tup (.cons (.var 5) (.cons (.var 6) .nil))) (.itr (.mt .get (.bi .dict (.cons (.idx (.var 0) (.int (1))) .nil)) (.cons (.var 4) (.cons (.tup .nil) .nil)))) (.bl true) (.var 5))))
   .nil))
 (.cons (.ret (.bi .sorted (.cons (.var 7) .nil)))
 .nil)))))
/-- law: [(0, script), (1, box), (2, datas), (3, program), (4, filled), (5, name), (6, makers), (7, empty), (8, k), (9, other), (10, more), (11, left), (12, kind)] -/
def b23 : S :=
 (.cons (.asg (.var 1) (.call 14 (.cons (.var 0) (.cons (.int (0)) (.cons (.int (62)) .nil)))))
 (.cons (.asg (.var 2) (.call 17 (.cons (.var 1) .nil)))
 (.cons (.asg (.var 3) (.tup (.cons (.str [112, 114, 111, 103, 114, 97, 109]) (.cons (.var 2) (.cons (.tup (.cons (.tup (.cons (.str [102]) (.cons (.tup .nil) (.cons (.str [110, 117, 109]) (.cons (.tup (.cons (.str [110, 117, 109]) (.cons (.int (0)) .nil))) .nil))))) .nil)) .nil)))))
 (.cons (.asg (.var 4) (.call 20 (.cons (.var 2) (.cons (.lst .nil) .nil))))
 (.cons (.asg (.var 7) (.lc [5, 6] (.tup (.cons (.var 5) (.cons (.var 6) .nil))) (.itr (.var 2)) (.cmp .notin (.var 5) (.var 4)) (.var 5)))
 (.cons (.cond (.cmp .gt (.bi .len (.cons (.var 7) .nil)) (.int (0)))
  (.cons (.ret (.call 21 (.cons (.call 13 (.cons (.var 3) .nil)) (.cons (.tup (.cons (.str [110, 111, 32, 118, 97, 108, 117, 101, 115]) (.cons (.idx (.var 7) (.int (0))) .nil))) .nil))))
   .nil)
  .nil)
 (.cons (.cond (.cmp .isnot (.call 13 (.cons (.var 3) .nil)) .non)
  (.cons (.ret (.bl false))
   .nil)
  .nil)
 (.cons (.for_ (.tup (.cons (.var 5) (.cons (.var 6) .nil))) (.itr (.var 2))
  (.cons (.cond (.not (.call 21 (.cons (.call 3 (.cons (.var 3) (.cons (.var 5) .nil))) (.cons (.bi .tuple (.cons (.call 22 (.cons (.var 3) (.cons (.var 5) .nil))) .nil)) .nil))))
    (.cons (.ret (.bl false))
     .nil)
    .nil)
   (.cons (.cond (.not (.call 21 (.cons (.call 2 (.cons (.var 3) (.cons (.var 5) .nil))) (.cons (.var 6) .nil))))
    (.cons (.ret (.bl false))
     .nil)
    .nil)
   (.cons (.for_ (.var 8) (.range (.cons (.bi .len (.cons (.var 6) .nil)) .nil))
    (.cons (.cond (.not (.call 21 (.cons (.call 1 (.cons (.var 3) (.cons (.idx (.idx (.var 6) (.var 8)) (.int (0))) .nil))) (.cons (.tup (.cons (.var 5) (.cons (.var 8) (.cons (.idx (.idx (.var 6) (.var 8)) (.int (1))) .nil)))) .nil))))
      (.cons (.ret (.bl false))
       .nil)
      .nil)
     .nil))
   (.cons (.for_ (.tup (.cons (.var 9) (.cons (.var 10) .nil))) (.itr (.var 2))
    (.cons (.asg (.var 11) (.call 20 (.cons (.var 2) (.cons (.lst (.cons (.var 9) .nil)) .nil))))
     (.cons (.for_ (.var 12) (.itr (.lst (.cons (.str [110, 117, 109]) (.cons (.str [116, 114, 117, 116, 104]) (.cons (.var 5) .nil)))))
      (.cons (.cond (.not (.call 21 (.cons (.call 5 (.cons (.var 3) (.cons (.var 12) (.cons (.tup (.cons (.var 9) .nil)) .nil)))) (.cons (.cmp .in_ (.var 12) (.var 11)) .nil))))
        (.cons (.ret (.bl false))
         .nil)
        .nil)
       .nil))
     .nil)))
   .nil)))))
 (.cons (.ret (.call 21 (.cons (.call 3 (.cons (.var 3) (.cons (.str [116, 114, 117, 116, 104]) .nil))) (.cons (.tup .nil) .nil))))
 .nil)))))))))
def P : Pg := ⟨[⟨2, 3, b0⟩, ⟨2, 7, b1⟩, ⟨2, 2, b2⟩, ⟨2, 8, b3⟩, ⟨1, 4, b4⟩, ⟨3, 6, b5⟩, ⟨1, 3, b6⟩, ⟨1, 12, b7⟩, ⟨1, 3, b8⟩, ⟨1, 3, b9⟩, ⟨2, 6, b10⟩, ⟨3, 5, b11⟩, ⟨3, 8, b12⟩, ⟨1, 6, b13⟩, ⟨3, 3, b14⟩, ⟨3, 8, b15⟩, ⟨2, 2, b16⟩, ⟨1, 8, b17⟩, ⟨2, 3, b18⟩, ⟨2, 2, b19⟩, ⟨2, 10, b20⟩, ⟨2, 3, b21⟩, ⟨2, 9, b22⟩, ⟨1, 13, b23⟩], [], [], [], 100⟩
end Mi.K6
set_option linter.all false
namespace Mi.K6

abbrev Mk := Sg × List Sg
abbrev Dt := Sg × List Mk
def num : Sg := [110, 117, 109]
def tru : Sg := [116, 114, 117, 116, 104]
def nm (k : Nat) : Sg := [100, 97 + k]
def mn (j k : Nat) : Sg := [80 + j, 48 + k]
structure Shape (D : List Dt) : Prop where
  lo : 2 ≤ D.length
  hi : D.length ≤ 4
  nam : ∀ k d, D[k]? = some d → d.1 = nm k
  len : ∀ d ∈ D, 1 ≤ d.2.length ∧ d.2.length ≤ 3
  mkn : ∀ (k : Nat) (d : Dt) (j : Nat) (m : Mk), D[k]? = some d → d.2[j]? = some m → m.1 = mn j k
  prt : ∀ d ∈ D, ∀ m ∈ d.2, m.2.length ≤ 2 ∧ ∀ p ∈ m.2, p = num ∨ p = tru ∨ p ∈ D.map (·.1)
theorem nm_inj {i j : Nat} (h : nm i = nm j) : i = j := by
  unfold nm at h; simp at h; exact h
theorem Shape.nodup {D : List Dt} (s : Shape D) : (D.map (·.1)).Nodup := by
  rw [List.nodup_iff_pairwise_ne, List.pairwise_iff_getElem]
  intro i j hi hj hij e
  rw [List.getElem_map, List.getElem_map] at e
  have a := s.nam i _ (List.getElem?_eq_getElem (by simpa using hi))
  have b := s.nam j _ (List.getElem?_eq_getElem (by simpa using hj))
  rw [a, b] at e
  exact absurd (nm_inj e) (Nat.ne_of_lt hij)
def lookD (D : List Dt) (k : Sg) : List Mk := ((D.find? fun d => decide (d.1 = k)).map (·.2)).getD []
theorem find_of_nodup : ∀ {D : List Dt} {d : Dt}, (D.map (·.1)).Nodup → d ∈ D → D.find? (fun e => decide (e.1 = d.1)) = some d
  | [], _, _, h => absurd h List.not_mem_nil
  | e :: D, d, nd, h => by
    rw [List.map_cons, List.nodup_cons] at nd
    rw [List.find?_cons]
    rcases List.mem_cons.mp h with h | h
    · subst h; simp
    · have : ¬ e.1 = d.1 := fun z => nd.1 (z ▸ List.mem_map_of_mem h)
      rw [decide_eq_false this]
      exact find_of_nodup nd.2 h
theorem look_of {D : List Dt} {d : Dt} (nd : (D.map (·.1)).Nodup) (h : d ∈ D) : lookD D d.1 = d.2 := by
  unfold lookD; rw [find_of_nodup nd h]; rfl
theorem look_mem {D : List Dt} {k : Sg} {m : Mk} (h : m ∈ lookD D k) : ∃ d ∈ D, d.1 = k ∧ m ∈ d.2 := by
  unfold lookD at h
  cases q : D.find? (fun d => decide (d.1 = k)) with
  | none => rw [q] at h; simp at h
  | some d =>
    rw [q] at h
    have := List.find?_some q
    exact ⟨d, List.mem_of_find?_eq_some q, by simpa using this, h⟩
theorem look_none {D : List Dt} {k : Sg} (h : k ∉ D.map (·.1)) : lookD D k = [] := by
  unfold lookD
  rw [List.find?_eq_none.mpr fun d hd => by
    have : ¬ d.1 = k := fun z => h (z ▸ List.mem_map_of_mem hd)
    simp [this]]
  rfl

/-! ### filled -/
def okM (found : List Sg) (m : Mk) : Bool := m.2.all fun p => decide (p ∈ found)
def fstep (wo found : List Sg) (d : Dt) : List Sg :=
  if d.1 ∉ found ∧ d.1 ∉ wo ∧ d.2.any (okM found) = true then found ++ [d.1] else found
def fpass (D : List Dt) (wo found : List Sg) : List Sg := D.foldl (fstep wo) found
def fiter (D : List Dt) (wo : List Sg) : Nat → List Sg
  | 0 => [num, tru]
  | n + 1 => fpass D wo (fiter D wo n)
def filled (D : List Dt) (wo : List Sg) : List Sg := fiter D wo 5

theorem foldl_pre {wo : List Sg} : ∀ (L : List Dt) (f : List Sg), ∃ t, L.foldl (fstep wo) f = f ++ t
  | [], f => ⟨[], by simp⟩
  | d :: L, f => by
    rw [List.foldl_cons]
    by_cases c : d.1 ∉ f ∧ d.1 ∉ wo ∧ d.2.any (okM f) = true
    · have h : fstep wo f d = f ++ [d.1] := if_pos c
      obtain ⟨t, e⟩ := foldl_pre L (f ++ [d.1])
      exact ⟨d.1 :: t, by rw [h, e]; simp⟩
    · have h : fstep wo f d = f := if_neg c
      rw [h]
      exact foldl_pre L f
/-- a list in order of its making -/
structure FOk (D : List Dt) (wo f : List Sg) : Prop where
  nd : f.Nodup
  sub : ∀ x ∈ f, x = num ∨ x = tru ∨ x ∈ D.map (·.1)
  mem : num ∈ f ∧ tru ∈ f
  why : ∀ (i : Nat) x, f[i]? = some x → x = num ∨ x = tru ∨ (x ∉ wo ∧ ∃ d ∈ D, d.1 = x ∧ ∃ m ∈ d.2, ∀ p ∈ m.2, p ∈ f.take i)
theorem FOk.step {D : List Dt} {wo f : List Sg} {d : Dt} (o : FOk D wo f) (hd : d ∈ D) : FOk D wo (fstep wo f d) := by
  unfold fstep
  split
  · rename_i h
    obtain ⟨h1, h2, h3⟩ := h
    refine ⟨?_, ?_, ?_, ?_⟩
    · rw [List.nodup_append]
      refine ⟨o.nd, by simp, fun a ha b hb e => ?_⟩
      rw [List.mem_singleton] at hb
      subst hb; subst e; exact h1 ha
    · intro x hx
      rcases List.mem_append.mp hx with hx | hx
      · exact o.sub x hx
      · rw [List.mem_singleton] at hx; subst hx; exact .inr (.inr (List.mem_map_of_mem hd))
    · exact ⟨List.mem_append_left _ o.mem.1, List.mem_append_left _ o.mem.2⟩
    · intro i x hx
      by_cases hi : i < f.length
      · rw [List.getElem?_append_left hi] at hx
        rcases o.why i x hx with z | z | ⟨z1, d', z2, z3, m, z4, z5⟩
        · exact .inl z
        · exact .inr (.inl z)
        · refine .inr (.inr ⟨z1, d', z2, z3, m, z4, fun p hp => ?_⟩)
          rw [List.take_append_of_le_length (Nat.le_of_lt hi)]
          exact z5 p hp
      · have hi' : i = f.length := by
          have := (List.getElem?_eq_some_iff.mp hx).1
          rw [List.length_append, List.length_singleton] at this; omega
        subst hi'
        rw [List.getElem?_append_right (Nat.le_refl _)] at hx
        simp at hx
        subst hx
        obtain ⟨m, hm, hp⟩ := List.any_eq_true.mp h3
        refine .inr (.inr ⟨h2, d, hd, rfl, m, hm, fun p hp' => ?_⟩)
        rw [List.take_append_of_le_length (Nat.le_refl _), List.take_length]
        unfold okM at hp
        exact of_decide_eq_true (List.all_eq_true.mp hp p hp')
  · exact o
theorem FOk.fold {D : List Dt} {wo : List Sg} : ∀ (L : List Dt) (f : List Sg), (∀ d ∈ L, d ∈ D) → FOk D wo f → FOk D wo (L.foldl (fstep wo) f)
  | [], f, _, o => o
  | d :: L, f, h, o => by
    rw [List.foldl_cons]
    exact FOk.fold L _ (fun e he => h e (List.mem_cons_of_mem _ he)) (o.step (h d List.mem_cons_self))
theorem FOk.iter (D : List Dt) (wo : List Sg) : ∀ n, FOk D wo (fiter D wo n)
  | 0 => ⟨(by decide : [num, tru].Nodup), fun x hx => by
      rcases List.mem_cons.mp hx with h | h
      · exact .inl h
      · exact .inr (.inl (List.mem_singleton.mp h)), (by decide : num ∈ [num, tru] ∧ tru ∈ [num, tru]), fun i x hx => by
      have := List.mem_of_getElem? hx
      rcases List.mem_cons.mp this with h | h
      · exact .inl h
      · exact .inr (.inl (List.mem_singleton.mp h))⟩
  | n + 1 => FOk.fold D _ (fun _ h => h) (FOk.iter D wo n)
theorem nodup_len {α : Type} [DecidableEq α] : ∀ (l u : List α), l.Nodup → (∀ x ∈ l, x ∈ u) → l.length ≤ u.length
  | [], u, _, _ => by simp
  | a :: l, u, nd, h => by
    rw [List.nodup_cons] at nd
    have ha := h a List.mem_cons_self
    have := nodup_len l (u.erase a) nd.2 fun x hx => by
      have hxa : x ≠ a := fun z => nd.1 (z ▸ hx)
      exact (List.mem_erase_of_ne hxa).mpr (h x (List.mem_cons_of_mem _ hx))
    rw [List.length_erase_of_mem ha] at this
    have hpos : 0 < u.length := List.length_pos_of_mem ha
    rw [List.length_cons]; omega
theorem FOk.len {D : List Dt} {wo f : List Sg} (o : FOk D wo f) : f.length ≤ 2 + D.length := by
  have := nodup_len f (num :: tru :: D.map (·.1)) o.nd fun x hx => by
    rcases o.sub x hx with h | h | h
    · subst h; simp
    · subst h; simp
    · exact List.mem_cons_of_mem _ (List.mem_cons_of_mem _ h)
  simp at this; omega
theorem fiter_stable {D : List Dt} {wo : List Sg} {n : Nat} (h : fiter D wo (n + 1) = fiter D wo n) : fiter D wo (n + 2) = fiter D wo (n + 1) := by
  show fpass D wo (fiter D wo (n + 1)) = fpass D wo (fiter D wo n)
  rw [h]
theorem fiter_grow (D : List Dt) (wo : List Sg) : ∀ n, fiter D wo (n + 1) = fiter D wo n ∨ 2 + n < (fiter D wo (n + 1)).length
  | 0 => by
    obtain ⟨t, e⟩ := foldl_pre (wo := wo) D (fiter D wo 0)
    have e : fiter D wo 1 = fiter D wo 0 ++ t := e
    cases t with
    | nil => left; rw [e]; simp
    | cons a t => right; rw [e]; simp [fiter]
  | n + 1 => by
    rcases fiter_grow D wo n with h | h
    · exact .inl (fiter_stable h)
    · obtain ⟨t, e⟩ := foldl_pre (wo := wo) D (fiter D wo (n + 1))
      have e : fiter D wo (n + 2) = fiter D wo (n + 1) ++ t := e
      cases t with
      | nil => left; rw [e]; simp
      | cons a t => right; rw [e]; simp; omega
theorem filled_stable {D : List Dt} (s : Shape D) (wo : List Sg) : fpass D wo (filled D wo) = filled D wo := by
  rcases fiter_grow D wo 4 with h | h
  · exact fiter_stable h
  · have h2 := (FOk.iter D wo 5).len
    have := s.hi
    have h : 2 + 4 < (fiter D wo 5).length := h
    omega
theorem fold_same {wo : List Sg} : ∀ (L : List Dt) (f : List Sg), L.foldl (fstep wo) f = f → ∀ d ∈ L, fstep wo f d = f
  | [], f, _, d, hd => absurd hd List.not_mem_nil
  | e :: L, f, h, d, hd => by
    rw [List.foldl_cons] at h
    have he : fstep wo f e = f := by
      by_cases z : fstep wo f e = f
      · exact z
      · obtain ⟨t, q⟩ := foldl_pre (wo := wo) L (fstep wo f e)
        rw [q] at h
        have hl := congrArg List.length h
        unfold fstep at hl z
        split at hl
        · simp at hl
        · rename_i c; rw [if_neg c] at z; exact absurd rfl z
    rcases List.mem_cons.mp hd with rfl | hd
    · exact he
    · rw [he] at h
      exact fold_same L f h d hd
theorem filled_closed {D : List Dt} (s : Shape D) {wo : List Sg} {d : Dt} {m : Mk} (hd : d ∈ D) (hw : d.1 ∉ wo) (hm : m ∈ d.2) (hp : ∀ p ∈ m.2, p ∈ filled D wo) : d.1 ∈ filled D wo := by
  have := fold_same D _ (filled_stable s wo) d hd
  unfold fstep at this
  by_cases z : d.1 ∈ filled D wo
  · exact z
  · rw [if_pos ⟨z, hw, List.any_eq_true.mpr ⟨m, hm, List.all_eq_true.mpr fun p hp' => decide_eq_true (hp p hp')⟩⟩] at this
    have hl := congrArg List.length this
    simp at hl

/-! ### has_values -/
def hv (D : List Dt) : Nat → Sg → List Sg → Bool
  | 0, k, _ => decide (k = num ∨ k = tru)
  | n + 1, k, tried => decide (k = num ∨ k = tru) || (decide (k ∉ tried) && (lookD D k).any fun m => m.2.all fun p => hv D n p (tried ++ [k]))
theorem hv_filled {D : List Dt} (s : Shape D) {wo : List Sg} : ∀ (n : Nat) (k : Sg) (tried : List Sg), (∀ x ∈ wo, x ∈ tried) → hv D n k tried = true → k ∈ filled D wo
  | 0, k, tried, hw, h => by
    have h : decide (k = num ∨ k = tru) = true := h
    rcases of_decide_eq_true h with h | h
    · subst h; exact (FOk.iter D wo 5).mem.1
    · subst h; exact (FOk.iter D wo 5).mem.2
  | n + 1, k, tried, hw, h => by
    unfold hv at h
    rw [Bool.or_eq_true] at h
    rcases h with h | h
    · rcases of_decide_eq_true h with h | h
      · subst h; exact (FOk.iter D wo 5).mem.1
      · subst h; exact (FOk.iter D wo 5).mem.2
    · rw [Bool.and_eq_true] at h
      obtain ⟨h1, h2⟩ := h
      obtain ⟨m, hm, ha⟩ := List.any_eq_true.mp h2
      obtain ⟨d, hd, rfl, hm'⟩ := look_mem hm
      refine filled_closed s hd (fun z => of_decide_eq_true h1 (hw _ z)) hm' fun p hp => ?_
      exact hv_filled s n p _ (fun x hx => List.mem_append_left _ (hw x hx)) (List.all_eq_true.mp ha p hp)
theorem nodup_take {f : List Sg} (nd : f.Nodup) {i j : Nat} {x : Sg} (hx : f[i]? = some x) (hj : j ≤ i) : x ∉ f.take j := fun h => by
  obtain ⟨l, hl, e⟩ := List.mem_iff_getElem.mp h
  rw [List.length_take] at hl
  rw [List.getElem_take] at e
  obtain ⟨hi, ei⟩ := List.getElem?_eq_some_iff.mp hx
  have hli : l < i := by omega
  exact (List.pairwise_iff_getElem.mp (List.nodup_iff_pairwise_ne.mp nd)) l i (by omega) hi hli (e.trans ei.symm)
theorem filled_hv {D : List Dt} (s : Shape D) {wo f : List Sg} (o : FOk D wo f) : ∀ (n i : Nat) (k : Sg) (tried : List Sg), i < n + 2 → f[i]? = some k → (∀ x ∈ tried, x ∉ f.take (i + 1)) → f[0]? = some num → f[1]? = some tru → hv D n k tried = true
  | n, i, k, tried, hi, hk, ht, h0, h1 => by
    rcases o.why i k hk with z | z | ⟨z1, d, hd, rfl, m, hm, hp⟩
    · cases n <;> (unfold hv; simp [z])
    · cases n <;> (unfold hv; simp [z])
    · by_cases q : d.1 = num ∨ d.1 = tru
      · cases n <;> (unfold hv; simp [q])
      · cases n with
        | zero =>
          exfalso
          have : i = 0 ∨ i = 1 := by omega
          rcases this with rfl | rfl
          · rw [h0] at hk; exact q (.inl (Option.some.inj hk).symm)
          · rw [h1] at hk; exact q (.inr (Option.some.inj hk).symm)
        | succ n =>
          unfold hv
          rw [Bool.or_eq_true]
          right
          rw [Bool.and_eq_true]
          have hmem : d.1 ∈ f.take (i + 1) := by
            obtain ⟨hl, e⟩ := List.getElem?_eq_some_iff.mp hk
            rw [List.mem_iff_getElem]
            exact ⟨i, by rw [List.length_take]; omega, by rw [List.getElem_take]; exact e⟩
          refine ⟨decide_eq_true fun z => ht _ z hmem, List.any_eq_true.mpr ⟨m, by rw [look_of s.nodup hd]; exact hm, List.all_eq_true.mpr fun p hp' => ?_⟩⟩
          obtain ⟨j, hj, e⟩ := List.mem_iff_getElem.mp (hp p hp')
          rw [List.length_take] at hj
          rw [List.getElem_take] at e
          refine filled_hv s o n j p _ (by omega) (by rw [← e]; exact List.getElem?_eq_getElem (by omega)) (fun x hx => ?_) h0 h1
          rcases List.mem_append.mp hx with hx | hx
          · intro z
            refine ht x hx ?_
            exact (List.take_subset_take_left f (by omega : j + 1 ≤ i + 1)) z
          · rw [List.mem_singleton] at hx
            subst hx
            exact nodup_take o.nd hk (by omega)
theorem fiter_01 (D : List Dt) (wo : List Sg) : ∀ n, (fiter D wo n)[0]? = some num ∧ (fiter D wo n)[1]? = some tru
  | 0 => ⟨rfl, rfl⟩
  | n + 1 => by
    obtain ⟨t, e⟩ := foldl_pre (wo := wo) D (fiter D wo n)
    have e : fiter D wo (n + 1) = fiter D wo n ++ t := e
    obtain ⟨h0, h1⟩ := fiter_01 D wo n
    have l1 := (List.getElem?_eq_some_iff.mp h1).1
    rw [e, List.getElem?_append_left (by omega), List.getElem?_append_left l1]
    exact ⟨h0, h1⟩
theorem hv_iff {D : List Dt} (s : Shape D) {wo : List Sg} (h0 : num ∉ wo) (h1 : tru ∉ wo) (k : Sg) : hv D 5 k wo = true ↔ k ∈ filled D wo := by
  refine ⟨hv_filled s 5 k wo fun _ h => h, fun h => ?_⟩
  have o := FOk.iter D wo 5
  obtain ⟨i, hi, e⟩ := List.mem_iff_getElem.mp h
  have hl := o.len
  have hs := s.hi
  have hi' : i < (fiter D wo 5).length := hi
  refine filled_hv s o 5 i k wo (by omega) (by rw [← e]; exact List.getElem?_eq_getElem hi) (fun x hx z => ?_) (fiter_01 D wo 5).1 (fiter_01 D wo 5).2
  obtain ⟨j, hj, e2⟩ := List.mem_iff_getElem.mp (List.mem_of_mem_take z)
  rcases o.why j x (by rw [← e2]; exact List.getElem?_eq_getElem hj) with q | q | ⟨q, _⟩
  · subst q; exact h0 hx
  · subst q; exact h1 hx
  · exact q hx
end Mi.K6
set_option linter.all false
namespace Mi.K6
/-! ### what is reached -/
def mkrs (D : List Dt) (k : Sg) : List Sg := (lookD D k).map (·.1)
inductive Reach (D : List Dt) (a : Sg) : Sg → Prop
  | base : Reach D a a
  | step {k p : Sg} {m : Mk} : Reach D a k → m ∈ lookD D k → p ∈ m.2 → Reach D a p
def uni (D : List Dt) : List Sg := num :: tru :: D.map (·.1)
theorem reach_uni {D : List Dt} (s : Shape D) {a : Sg} (ha : a ∈ uni D) {x : Sg} (h : Reach D a x) : x ∈ uni D := by
  induction h with
  | base => exact ha
  | step _ hm hp =>
    obtain ⟨d, hd, _, hm'⟩ := look_mem hm
    unfold uni
    rcases (s.prt d hd _ hm').2 _ hp with h | h | h
    · subst h; simp
    · subst h; simp
    · exact List.mem_cons_of_mem _ (List.mem_cons_of_mem _ h)
def lrow (ks : List Sg) (m : Mk) : List Sg := ks ++ m.2.filter fun p => decide (p ∉ ks)
def lturn (D : List Dt) (ks : List Sg) : List Sg := ks.foldl (fun acc own => (lookD D own).foldl lrow acc) ks
def liter (D : List Dt) (a : Sg) : Nat → List Sg
  | 0 => [a]
  | n + 1 => lturn D (liter D a n)
theorem lrows : ∀ (rows : List Mk) (acc : List Sg), ∃ t, rows.foldl lrow acc = acc ++ t ∧ (∀ x ∈ t, x ∉ acc) ∧ (∀ m ∈ rows, ∀ p ∈ m.2, p ∈ acc ++ t) ∧ ∀ x ∈ t, ∃ m ∈ rows, x ∈ m.2
  | [], acc => ⟨[], by simp, by simp, by simp, by simp⟩
  | m :: rows, acc => by
    obtain ⟨t, h1, h2, h3, h4⟩ := lrows rows (lrow acc m)
    refine ⟨(m.2.filter fun p => decide (p ∉ acc)) ++ t, ?_, ?_, ?_, ?_⟩
    · rw [List.foldl_cons, h1]; unfold lrow; rw [List.append_assoc]
    · intro x hx
      rcases List.mem_append.mp hx with hx | hx
      · exact of_decide_eq_true (List.mem_filter.mp hx).2
      · exact fun z => h2 x hx (List.mem_append_left _ z)
    · intro m' hm' p hp
      rw [← List.append_assoc]
      rcases List.mem_cons.mp hm' with hm' | hm'
      · subst hm'
        refine List.mem_append_left _ ?_
        by_cases z : p ∈ acc
        · exact List.mem_append_left _ z
        · exact List.mem_append_right _ (List.mem_filter.mpr ⟨hp, decide_eq_true z⟩)
      · exact h3 m' hm' p hp
    · intro x hx
      rcases List.mem_append.mp hx with hx | hx
      · exact ⟨m, List.mem_cons_self, (List.mem_filter.mp hx).1⟩
      · obtain ⟨m', a, b⟩ := h4 x hx
        exact ⟨m', List.mem_cons_of_mem _ a, b⟩
theorem lturn_eq (D : List Dt) (ks : List Sg) : lturn D ks = (ks.flatMap fun k => lookD D k).foldl lrow ks := by
  unfold lturn
  generalize ks = acc at *
  have : ∀ (l acc : List Sg), l.foldl (fun acc own => (lookD D own).foldl lrow acc) acc = (l.flatMap fun k => lookD D k).foldl lrow acc := by
    intro l
    induction l with
    | nil => intro acc; rfl
    | cons x l ih => intro acc; rw [List.foldl_cons, List.flatMap_cons, List.foldl_append]; exact ih _
  exact this acc acc
theorem lturn_ok (D : List Dt) (ks : List Sg) : ∃ t, lturn D ks = ks ++ t ∧ (∀ x ∈ t, x ∉ ks) ∧ (∀ k ∈ ks, ∀ m ∈ lookD D k, ∀ p ∈ m.2, p ∈ lturn D ks) ∧ ∀ x ∈ t, ∃ k ∈ ks, ∃ m ∈ lookD D k, x ∈ m.2 := by
  rw [lturn_eq]
  obtain ⟨t, h1, h2, h3, h4⟩ := lrows (ks.flatMap fun k => lookD D k) ks
  rw [h1]
  refine ⟨t, rfl, h2, fun k hk m hm p hp => h3 m (List.mem_flatMap.mpr ⟨k, hk, hm⟩) p hp, fun x hx => ?_⟩
  obtain ⟨m, hm, hx'⟩ := h4 x hx
  obtain ⟨k, hk, hm'⟩ := List.mem_flatMap.mp hm
  exact ⟨k, hk, m, hm', hx'⟩
theorem liter_reach (D : List Dt) (a : Sg) : ∀ n, ∀ x ∈ liter D a n, Reach D a x
  | 0, x, hx => by
    have hx : x ∈ [a] := hx
    rw [List.mem_singleton] at hx; subst hx; exact .base
  | n + 1, x, hx => by
    obtain ⟨t, h1, h2, h3, h4⟩ := lturn_ok D (liter D a n)
    have hx : x ∈ lturn D (liter D a n) := hx
    rw [h1] at hx
    rcases List.mem_append.mp hx with hx | hx
    · exact liter_reach D a n x hx
    · obtain ⟨k, hk, m, hm, hp⟩ := h4 x hx
      exact .step (liter_reach D a n k hk) hm hp
theorem liter_grow (D : List Dt) (a : Sg) : ∀ n, liter D a (n + 1) = liter D a n ∨ ∃ w : List Sg, w.Nodup ∧ w.length = n + 2 ∧ ∀ x ∈ w, x ∈ liter D a (n + 1)
  | 0 => by
    obtain ⟨t, h1, h2, _, _⟩ := lturn_ok D (liter D a 0)
    have h1' : liter D a 1 = liter D a 0 ++ t := h1
    cases t with
    | nil => left; rw [h1']; simp
    | cons b t =>
      right
      have hb := h2 b List.mem_cons_self
      have hb : b ∉ [a] := hb
      refine ⟨[b, a], by rw [List.nodup_cons]; exact ⟨hb, by simp⟩, rfl, fun x hx => ?_⟩
      rw [h1']
      show x ∈ [a] ++ b :: t
      rcases List.mem_cons.mp hx with h | h
      · subst h; simp
      · rw [List.mem_singleton.mp h]; simp
  | n + 1 => by
    rcases liter_grow D a n with h | ⟨w, nd, hl, hw⟩
    · left
      show lturn D (liter D a (n + 1)) = lturn D (liter D a n)
      rw [h]
    · obtain ⟨t, h1, h2, _, _⟩ := lturn_ok D (liter D a (n + 1))
      have h1' : liter D a (n + 2) = liter D a (n + 1) ++ t := h1
      cases t with
      | nil => left; rw [h1']; simp
      | cons b t =>
        right
        have hb := h2 b List.mem_cons_self
        refine ⟨b :: w, List.nodup_cons.mpr ⟨fun z => hb (hw b z), nd⟩, by rw [List.length_cons, hl], fun x hx => ?_⟩
        rw [h1']
        rcases List.mem_cons.mp hx with h | h
        · subst h; exact List.mem_append_right _ List.mem_cons_self
        · exact List.mem_append_left _ (hw x h)
theorem liter_start (D : List Dt) (a : Sg) : ∀ n, a ∈ liter D a n
  | 0 => List.mem_cons_self
  | n + 1 => by
    obtain ⟨t, h1, _, _, _⟩ := lturn_ok D (liter D a n)
    have h1 : liter D a (n + 1) = liter D a n ++ t := h1
    rw [h1]; exact List.mem_append_left _ (liter_start D a n)
theorem liter_mem {D : List Dt} (s : Shape D) {a : Sg} (ha : a ∈ uni D) (x : Sg) : x ∈ liter D a 6 ↔ Reach D a x := by
  have st : liter D a 6 = liter D a 5 := by
    rcases liter_grow D a 5 with h | ⟨w, nd, hl, hw⟩
    · exact h
    · have := nodup_len w (uni D) nd fun x hx => reach_uni s ha (liter_reach D a 6 x (hw x hx))
      have hh := s.hi
      unfold uni at this
      simp at this
      omega
  refine ⟨liter_reach D a 6 x, fun h => ?_⟩
  induction h with
  | base => exact liter_start D a 6
  | step _ hm hp ih =>
    obtain ⟨t, h1, _, h3, _⟩ := lturn_ok D (liter D a 5)
    rw [st] at ih
    exact h3 _ ih _ hm _ hp
/-! the other way -/
def addp (ks : List Sg) (p : Sg) : List Sg := if p ∈ ks then ks else ks ++ [p]
def brow (ks : List Sg) (m : Mk) : List Sg := m.2.foldl addp ks
def bstep (D : List Dt) (ks : List Sg) (k : Sg) : List Sg := (lookD D k).foldl brow ks
theorem addp_ok (ks : List Sg) (p : Sg) : (∃ t, addp ks p = ks ++ t) ∧ p ∈ addp ks p ∧ (ks.Nodup → (addp ks p).Nodup) ∧ ∀ x ∈ addp ks p, x ∈ ks ∨ x = p := by
  unfold addp
  by_cases h : p ∈ ks
  · rw [if_pos h]; exact ⟨⟨[], by simp⟩, h, id, fun x hx => .inl hx⟩
  · rw [if_neg h]
    refine ⟨⟨[p], rfl⟩, by simp, fun nd => ?_, fun x hx => ?_⟩
    · rw [List.nodup_append]
      exact ⟨nd, by simp, fun a ha b hb e => by rw [List.mem_singleton] at hb; subst hb; subst e; exact h ha⟩
    · rcases List.mem_append.mp hx with hx | hx
      · exact .inl hx
      · exact .inr (List.mem_singleton.mp hx)
theorem addps_ok : ∀ (ps ks : List Sg), (∃ t, ps.foldl addp ks = ks ++ t) ∧ (∀ p ∈ ps, p ∈ ps.foldl addp ks) ∧ (ks.Nodup → (ps.foldl addp ks).Nodup) ∧ ∀ x ∈ ps.foldl addp ks, x ∈ ks ∨ x ∈ ps
  | [], ks => ⟨⟨[], by simp⟩, by simp, id, fun x hx => .inl hx⟩
  | p :: ps, ks => by
    obtain ⟨⟨t, e⟩, h1, h2, h3⟩ := addp_ok ks p
    obtain ⟨⟨t', e'⟩, g1, g2, g3⟩ := addps_ok ps (addp ks p)
    rw [List.foldl_cons]
    refine ⟨⟨t ++ t', by rw [e', e]; simp⟩, fun q hq => ?_, fun nd => g2 (h2 nd), fun x hx => ?_⟩
    · rcases List.mem_cons.mp hq with h | h
      · subst h; rw [e']; exact List.mem_append_left _ h1
      · exact g1 q h
    · rcases g3 x hx with h | h
      · rcases h3 x h with h | h
        · exact .inl h
        · exact .inr (by rw [h]; exact List.mem_cons_self)
      · exact .inr (List.mem_cons_of_mem _ h)
theorem brows_ok : ∀ (rows : List Mk) (ks : List Sg), (∃ t, rows.foldl brow ks = ks ++ t) ∧ (∀ m ∈ rows, ∀ p ∈ m.2, p ∈ rows.foldl brow ks) ∧ (ks.Nodup → (rows.foldl brow ks).Nodup) ∧ ∀ x ∈ rows.foldl brow ks, x ∈ ks ∨ ∃ m ∈ rows, x ∈ m.2
  | [], ks => ⟨⟨[], by simp⟩, by simp, id, fun x hx => .inl hx⟩
  | m :: rows, ks => by
    obtain ⟨⟨t, e⟩, h1, h2, h3⟩ := addps_ok m.2 ks
    obtain ⟨⟨t', e'⟩, g1, g2, g3⟩ := brows_ok rows (brow ks m)
    rw [List.foldl_cons]
    have e : brow ks m = ks ++ t := e
    refine ⟨⟨t ++ t', by rw [e', e]; simp⟩, fun m' hm' p hp => ?_, fun nd => g2 (h2 nd), fun x hx => ?_⟩
    · rcases List.mem_cons.mp hm' with h | h
      · subst h; rw [e']; exact List.mem_append_left _ (h1 p hp)
      · exact g1 m' h p hp
    · rcases g3 x hx with h | ⟨m', hm', h⟩
      · rcases h3 x h with h | h
        · exact .inl h
        · exact .inr ⟨m, List.mem_cons_self, h⟩
      · exact .inr ⟨m', List.mem_cons_of_mem _ hm', h⟩
structure BInv (D : List Dt) (a : Sg) (ks : List Sg) (pl : Nat) : Prop where
  nd : ks.Nodup
  st : a ∈ ks
  rch : ∀ x ∈ ks, Reach D a x
  ple : pl ≤ ks.length
  cl : ∀ (i : Nat) k, i < pl → ks[i]? = some k → ∀ m ∈ lookD D k, ∀ p ∈ m.2, p ∈ ks
theorem BInv.start (D : List Dt) (a : Sg) : BInv D a [a] 0 :=
  ⟨by simp, by simp, fun x hx => by rw [List.mem_singleton] at hx; subst hx; exact .base, Nat.zero_le _, fun i k h => absurd h (Nat.not_lt_zero _)⟩
theorem BInv.step {D : List Dt} {a : Sg} {ks : List Sg} {pl : Nat} {k : Sg} (b : BInv D a ks pl) (hk : ks[pl]? = some k) : BInv D a (bstep D ks k) (pl + 1) := by
  obtain ⟨⟨t, e⟩, h1, h2, h3⟩ := brows_ok (lookD D k) ks
  have hlt := (List.getElem?_eq_some_iff.mp hk).1
  have e : bstep D ks k = ks ++ t := e
  refine ⟨h2 b.nd, by rw [e]; exact List.mem_append_left _ b.st, fun x hx => ?_, by rw [e, List.length_append]; omega, fun i k' hi hk' m hm p hp => ?_⟩
  · rcases h3 x hx with h | ⟨m, hm, h⟩
    · exact b.rch x h
    · exact .step (b.rch k (List.mem_of_getElem? hk)) hm h
  · have hil : i < ks.length := by omega
    rw [e, List.getElem?_append_left hil] at hk'
    by_cases z : i < pl
    · rw [e]; exact List.mem_append_left _ (b.cl i k' z hk' m hm p hp)
    · have : i = pl := by omega
      subst this
      rw [hk] at hk'
      cases hk'
      exact h1 m hm p hp
theorem BInv.len {D : List Dt} {a : Sg} {ks : List Sg} {pl : Nat} (s : Shape D) (ha : a ∈ uni D) (b : BInv D a ks pl) : ks.length ≤ 6 := by
  have := nodup_len ks (uni D) b.nd fun x hx => reach_uni s ha (b.rch x hx)
  have hh := s.hi
  unfold uni at this
  simp at this
  omega
theorem BInv.done {D : List Dt} {a : Sg} {ks : List Sg} {pl : Nat} (b : BInv D a ks pl) (h : ks.length ≤ pl) (x : Sg) : x ∈ ks ↔ Reach D a x := by
  refine ⟨b.rch x, fun r => ?_⟩
  induction r with
  | base => exact b.st
  | step _ hm hp ih =>
    obtain ⟨i, hi, e⟩ := List.mem_iff_getElem.mp ih
    exact b.cl i _ (by omega) (by rw [← e]; exact List.getElem?_eq_getElem hi) _ hm _ hp
theorem perm_of_nodup {α : Type} [DecidableEq α] : ∀ (l1 l2 : List α), l1.Nodup → l2.Nodup → (∀ x, x ∈ l1 ↔ x ∈ l2) → l1.Perm l2
  | [], l2, _, _, h => by
    cases l2 with
    | nil => exact .nil
    | cons a l => exact absurd ((h a).2 List.mem_cons_self) List.not_mem_nil
  | a :: l1, l2, n1, n2, h => by
    rw [List.nodup_cons] at n1
    have ha := (h a).1 List.mem_cons_self
    refine (List.Perm.cons a (perm_of_nodup l1 (l2.erase a) n1.2 (n2.erase a) fun x => ?_)).trans (List.perm_cons_erase ha).symm
    rw [n2.mem_erase_iff]
    constructor
    · intro hx
      exact ⟨fun z => n1.1 (z ▸ hx), (h x).1 (List.mem_cons_of_mem _ hx)⟩
    · intro ⟨hne, hx⟩
      rcases List.mem_cons.mp ((h x).2 hx) with z | z
      · exact absurd z hne
      · exact z
end Mi.K6
set_option Elab.async false
set_option linter.all false
set_option maxRecDepth 100000
set_option maxHeartbeats 2000000
namespace Mi.K6
open Mi
/-! the script -/
theorem cell_ok {ns : List Int} {x : PV} {h : AH} {k n : Nat} (hx : seqOf x h = some (ns.map .int)) : wC (callF P (n + 1)) 16 [x, .int k] h (fun v h' => ∃ c : Int, v = .int c ∧ h' = h) := by
  refine wC_of (d := ⟨2, 2, b16⟩) rfl rfl ?_
  show wS P _ b16 [some x, some (.int k)] h _ _
  refine wS_cons (wS_cond ?_)
  simp only [wE_var, wE_non, wE_bl, wE_int, wE_str, wE_tup, wE_lst, wE_bin, wE_cmp, wE_and, wE_or, wE_not, wE_ite, wE_idx, wE_call, wE_bi, wE_mt, wL_nil, wL_cons, wR_some, wV_some, wB_some, wG_some, wX_some, wT_bl, wT_int, wT_non, wT_tup, bindP, bindPs, List.getElem?_cons_zero, List.getElem?_cons_succ, List.set_cons_zero, List.set_cons_succ, List.length_cons, List.length_nil, pbin_add, pbin_sub, pbi_int, pbi_lenT, pbi_tupT, isTup_tup, isTup_str, isTup_int, isTup_bl, isTup_non, isBl_bl, isBl_int, isBl_str, isInt_int, isInt_str, isStr_str, pcmp_lt, pcmp_le, pcmp_gt, pcmp_ge, pcmp_eqI, pcmp_neI, pcmp_eqS, pcmp_neS, pcmp_eqB, pcmp_isN, pcmp_isT, pcmp_isS, pcmp_isI, pcmp_isB, pcmp_isnotN, pcmp_isnotT, pcmp_isnotS, seq_tup, pidx_tup, atP_0, atP_1, atP_2, atP_3, SZ_le, SZ_lt, true_implies, false_implies, Bool.true_eq_false, Bool.false_eq_true, and_true, true_and, decide_eq_true_eq, decide_eq_false_iff_not, Bool.not_eq_true', Bool.not_eq_false', Nat.reduceLeDiff, Nat.reduceAdd, Nat.zero_le, Bool.not_true, Bool.not_false, pbi_len hx, List.length_map]
  constructor
  · intro hk
    refine wS_cons (wS_ret ?_)
    have hk' : k < ns.length := by omega
    simp only [wE_var, wE_non, wE_bl, wE_int, wE_str, wE_tup, wE_lst, wE_bin, wE_cmp, wE_and, wE_or, wE_not, wE_ite, wE_idx, wE_call, wE_bi, wE_mt, wL_nil, wL_cons, wR_some, wV_some, wB_some, wG_some, wX_some, wT_bl, wT_int, wT_non, wT_tup, bindP, bindPs, List.getElem?_cons_zero, List.getElem?_cons_succ, List.set_cons_zero, List.set_cons_succ, List.length_cons, List.length_nil, pbin_add, pbin_sub, pbi_int, pbi_lenT, pbi_tupT, isTup_tup, isTup_str, isTup_int, isTup_bl, isTup_non, isBl_bl, isBl_int, isBl_str, isInt_int, isInt_str, isStr_str, pcmp_lt, pcmp_le, pcmp_gt, pcmp_ge, pcmp_eqI, pcmp_neI, pcmp_eqS, pcmp_neS, pcmp_eqB, pcmp_isN, pcmp_isT, pcmp_isS, pcmp_isI, pcmp_isB, pcmp_isnotN, pcmp_isnotT, pcmp_isnotS, seq_tup, pidx_tup, atP_0, atP_1, atP_2, atP_3, SZ_le, SZ_lt, true_implies, false_implies, Bool.true_eq_false, Bool.false_eq_true, and_true, true_and, decide_eq_true_eq, decide_eq_false_iff_not, Bool.not_eq_true', Bool.not_eq_false', Nat.reduceLeDiff, Nat.reduceAdd, Nat.zero_le, Bool.not_true, Bool.not_false, pidx_seq hx, atP_nat (xs := ns.map PV.int) (k := k) (v := .int ns[k]) (by simp [hk'])]
    exact ⟨_, rfl⟩
  · intro hk
    refine wS_nil ?_
    refine wS_cons (wS_ret ?_)
    simp only [wE_var, wE_non, wE_bl, wE_int, wE_str, wE_tup, wE_lst, wE_bin, wE_cmp, wE_and, wE_or, wE_not, wE_ite, wE_idx, wE_call, wE_bi, wE_mt, wL_nil, wL_cons, wR_some, wV_some, wB_some, wG_some, wX_some, wT_bl, wT_int, wT_non, wT_tup, bindP, bindPs, List.getElem?_cons_zero, List.getElem?_cons_succ, List.set_cons_zero, List.set_cons_succ, List.length_cons, List.length_nil, pbin_add, pbin_sub, pbi_int, pbi_lenT, pbi_tupT, isTup_tup, isTup_str, isTup_int, isTup_bl, isTup_non, isBl_bl, isBl_int, isBl_str, isInt_int, isInt_str, isStr_str, pcmp_lt, pcmp_le, pcmp_gt, pcmp_ge, pcmp_eqI, pcmp_neI, pcmp_eqS, pcmp_neS, pcmp_eqB, pcmp_isN, pcmp_isT, pcmp_isS, pcmp_isI, pcmp_isB, pcmp_isnotN, pcmp_isnotT, pcmp_isnotS, seq_tup, pidx_tup, atP_0, atP_1, atP_2, atP_3, SZ_le, SZ_lt, true_implies, false_implies, Bool.true_eq_false, Bool.false_eq_true, and_true, true_and, decide_eq_true_eq, decide_eq_false_iff_not, Bool.not_eq_true', Bool.not_eq_false', Nat.reduceLeDiff, Nat.reduceAdd, Nat.zero_le, Bool.not_true, Bool.not_false]
    exact ⟨_, rfl⟩
def Hb (b : Nat) (h0 h : AH) : Prop := (∀ (a : Nat) o, a ≠ b → h0[a]? = some o → h[a]? = some o) ∧ h0.length ≤ h.length
theorem Hb.refl {b : Nat} {h : AH} : Hb b h h := ⟨fun _ _ _ e => e, Nat.le_refl _⟩
theorem Hb.trans {b : Nat} {h0 h1 h2 : AH} (x : Hb b h0 h1) (y : Hb b h1 h2) : Hb b h0 h2 := ⟨fun a o n e => y.1 a o n (x.1 a o n e), Nat.le_trans x.2 y.2⟩
theorem Hx.hb {b : Nat} {h0 h1 : AH} (x : Hx h0 h1) : Hb b h0 h1 := ⟨fun a o _ e => x a o e, x.len⟩
/-- the box -/
def BoxAt (b d : Nat) (ds : List Int) (h : AH) : Prop := b ≠ d ∧ (∃ p : Nat, h[b]? = some (.lst [.ref d, .int p])) ∧ h[d]? = some (.lst (ds.map .int))
theorem BoxAt.hx {b d : Nat} {ds : List Int} {h h' : AH} (x : BoxAt b d ds h) (k : Hx h h') : BoxAt b d ds h' := by
  obtain ⟨h1, ⟨p, h2⟩, h3⟩ := x
  exact ⟨h1, ⟨p, k _ _ h2⟩, k _ _ h3⟩
theorem draw_ok {b d : Nat} {ds : List Int} {h : AH} {many n : Nat} (B : BoxAt b d ds h) (hm : 0 < many) : wC (callF P (n + 1)) 18 [.ref b, .int many] h (fun v h' => ∃ r : Nat, v = .int r ∧ r < many ∧ BoxAt b d ds h' ∧ Hb b h h' ∧ h'.length = h.length) := by
  obtain ⟨hbd, ⟨p, hb⟩, hd⟩ := B
  have hbl : b < h.length := (List.getElem?_eq_some_iff.mp hb).1
  refine wC_of (d := ⟨2, 3, b18⟩) rfl rfl ?_
  show wS P _ b18 [some (.ref b), some (.int many), none] h _ _
  refine wS_cons (wS_asg rfl ?_)
  simp only [wE_var, wE_non, wE_bl, wE_int, wE_str, wE_tup, wE_lst, wE_bin, wE_cmp, wE_and, wE_or, wE_not, wE_ite, wE_idx, wE_call, wE_bi, wE_mt, wL_nil, wL_cons, wR_some, wV_some, wB_some, wG_some, wX_some, wT_bl, wT_int, wT_non, wT_tup, bindP, bindPs, List.getElem?_cons_zero, List.getElem?_cons_succ, List.set_cons_zero, List.set_cons_succ, List.length_cons, List.length_nil, pbin_add, pbin_sub, pbi_int, pbi_lenT, pbi_tupT, isTup_tup, isTup_str, isTup_int, isTup_bl, isTup_non, isBl_bl, isBl_int, isBl_str, isInt_int, isInt_str, isStr_str, pcmp_lt, pcmp_le, pcmp_gt, pcmp_ge, pcmp_eqI, pcmp_neI, pcmp_eqS, pcmp_neS, pcmp_eqB, pcmp_isN, pcmp_isT, pcmp_isS, pcmp_isI, pcmp_isB, pcmp_isnotN, pcmp_isnotT, pcmp_isnotS, seq_tup, pidx_tup, atP_0, atP_1, atP_2, atP_3, SZ_le, SZ_lt, true_implies, false_implies, Bool.true_eq_false, Bool.false_eq_true, and_true, true_and, decide_eq_true_eq, decide_eq_false_iff_not, Bool.not_eq_true', Bool.not_eq_false', Nat.reduceLeDiff, Nat.reduceAdd, Nat.zero_le, Bool.not_true, Bool.not_false, pidx_seq (seq_at hb)]
  refine wS_cons (wS_set ?_)
  simp only [wE_var, wE_non, wE_bl, wE_int, wE_str, wE_tup, wE_lst, wE_bin, wE_cmp, wE_and, wE_or, wE_not, wE_ite, wE_idx, wE_call, wE_bi, wE_mt, wL_nil, wL_cons, wR_some, wV_some, wB_some, wG_some, wX_some, wT_bl, wT_int, wT_non, wT_tup, bindP, bindPs, List.getElem?_cons_zero, List.getElem?_cons_succ, List.set_cons_zero, List.set_cons_succ, List.length_cons, List.length_nil, pbin_add, pbin_sub, pbi_int, pbi_lenT, pbi_tupT, isTup_tup, isTup_str, isTup_int, isTup_bl, isTup_non, isBl_bl, isBl_int, isBl_str, isInt_int, isInt_str, isStr_str, pcmp_lt, pcmp_le, pcmp_gt, pcmp_ge, pcmp_eqI, pcmp_neI, pcmp_eqS, pcmp_neS, pcmp_eqB, pcmp_isN, pcmp_isT, pcmp_isS, pcmp_isI, pcmp_isB, pcmp_isnotN, pcmp_isnotT, pcmp_isnotS, seq_tup, pidx_tup, atP_0, atP_1, atP_2, atP_3, SZ_le, SZ_lt, true_implies, false_implies, Bool.true_eq_false, Bool.false_eq_true, and_true, true_and, decide_eq_true_eq, decide_eq_false_iff_not, Bool.not_eq_true', Bool.not_eq_false', Nat.reduceLeDiff, Nat.reduceAdd, Nat.zero_le, Bool.not_true, Bool.not_false, pset, hb, L2.ixN]
  refine ⟨_, rfl, ?_⟩
  have hb' : (h.set b (.lst [.ref d, .int (p + 1)]))[b]? = some (.lst [.ref d, .int ((p + 1 : Nat) : Int)]) := by simp [hbl]
  have hd' : (h.set b (.lst [.ref d, .int (p + 1)]))[d]? = some (.lst (ds.map .int)) := by rw [List.getElem?_set_ne hbd]; exact hd
  have hB : BoxAt b d ds (h.set b (.lst [.ref d, .int (p + 1)])) := ⟨hbd, ⟨p + 1, hb'⟩, hd'⟩
  have hH : Hb b h (h.set b (.lst [.ref d, .int (p + 1)])) := ⟨fun a o ha e => by rw [List.getElem?_set_ne (Ne.symm ha)]; exact e, by simp⟩
  show wS P _ _ [some (.ref b), some (.int many), some (.int p)] (h.set b (.lst [.ref d, .int (p + 1)])) _ _
  generalize hh : h.set b (.lst [.ref d, .int (p + 1)]) = h2 at hb' hd' hB hH ⊢
  have hlen : h2.length = h.length := by rw [← hh]; simp
  have i0 : pidx (.ref b) (.int 0) h2 = some (.ref d) := by rw [pidx_seq (seq_at hb')]; exact atP_0
  refine wS_cons (wS_cond ?_)
  simp only [wE_var, wE_non, wE_bl, wE_int, wE_str, wE_tup, wE_lst, wE_bin, wE_cmp, wE_and, wE_or, wE_not, wE_ite, wE_idx, wE_call, wE_bi, wE_mt, wL_nil, wL_cons, wR_some, wV_some, wB_some, wG_some, wX_some, wT_bl, wT_int, wT_non, wT_tup, bindP, bindPs, List.getElem?_cons_zero, List.getElem?_cons_succ, List.set_cons_zero, List.set_cons_succ, List.length_cons, List.length_nil, pbin_add, pbin_sub, pbi_int, pbi_lenT, pbi_tupT, isTup_tup, isTup_str, isTup_int, isTup_bl, isTup_non, isBl_bl, isBl_int, isBl_str, isInt_int, isInt_str, isStr_str, pcmp_lt, pcmp_le, pcmp_gt, pcmp_ge, pcmp_eqI, pcmp_neI, pcmp_eqS, pcmp_neS, pcmp_eqB, pcmp_isN, pcmp_isT, pcmp_isS, pcmp_isI, pcmp_isB, pcmp_isnotN, pcmp_isnotT, pcmp_isnotS, seq_tup, pidx_tup, atP_0, atP_1, atP_2, atP_3, SZ_le, SZ_lt, true_implies, false_implies, Bool.true_eq_false, Bool.false_eq_true, and_true, true_and, decide_eq_true_eq, decide_eq_false_iff_not, Bool.not_eq_true', Bool.not_eq_false', Nat.reduceLeDiff, Nat.reduceAdd, Nat.zero_le, Bool.not_true, Bool.not_false, i0, pbi_len (seq_at hd'), List.length_map]
  constructor
  · intro hk
    refine wS_cons (wS_ret ?_)
    have hk' : p < ds.length := by omega
    have i1 : pidx (.ref d) (.int p) h2 = some (.int ds[p]) := by
      rw [pidx_seq (seq_at hd')]
      exact atP_nat (by simp [hk'])
    simp only [wE_var, wE_non, wE_bl, wE_int, wE_str, wE_tup, wE_lst, wE_bin, wE_cmp, wE_and, wE_or, wE_not, wE_ite, wE_idx, wE_call, wE_bi, wE_mt, wL_nil, wL_cons, wR_some, wV_some, wB_some, wG_some, wX_some, wT_bl, wT_int, wT_non, wT_tup, bindP, bindPs, List.getElem?_cons_zero, List.getElem?_cons_succ, List.set_cons_zero, List.set_cons_succ, List.length_cons, List.length_nil, pbin_add, pbin_sub, pbi_int, pbi_lenT, pbi_tupT, isTup_tup, isTup_str, isTup_int, isTup_bl, isTup_non, isBl_bl, isBl_int, isBl_str, isInt_int, isInt_str, isStr_str, pcmp_lt, pcmp_le, pcmp_gt, pcmp_ge, pcmp_eqI, pcmp_neI, pcmp_eqS, pcmp_neS, pcmp_eqB, pcmp_isN, pcmp_isT, pcmp_isS, pcmp_isI, pcmp_isB, pcmp_isnotN, pcmp_isnotT, pcmp_isnotS, seq_tup, pidx_tup, atP_0, atP_1, atP_2, atP_3, SZ_le, SZ_lt, true_implies, false_implies, Bool.true_eq_false, Bool.false_eq_true, and_true, true_and, decide_eq_true_eq, decide_eq_false_iff_not, Bool.not_eq_true', Bool.not_eq_false', Nat.reduceLeDiff, Nat.reduceAdd, Nat.zero_le, Bool.not_true, Bool.not_false, i0, i1, pbin_mod (i := ds[p]) (j := many) (h := h2) (by omega)]
    have h1 := Int.fmod_nonneg_of_pos (a := ds[p]) (b := many) (by omega)
    have h2 := Int.fmod_lt_of_pos ds[p] (b := many) (by omega)
    exact ⟨(Int.fmod ds[p] many).toNat, by rw [Int.toNat_of_nonneg h1], by omega, hB, hH, hlen⟩
  · intro hk
    refine wS_nil (wS_cons (wS_ret ?_))
    simp only [wE_var, wE_non, wE_bl, wE_int, wE_str, wE_tup, wE_lst, wE_bin, wE_cmp, wE_and, wE_or, wE_not, wE_ite, wE_idx, wE_call, wE_bi, wE_mt, wL_nil, wL_cons, wR_some, wV_some, wB_some, wG_some, wX_some, wT_bl, wT_int, wT_non, wT_tup, bindP, bindPs, List.getElem?_cons_zero, List.getElem?_cons_succ, List.set_cons_zero, List.set_cons_succ, List.length_cons, List.length_nil, pbin_add, pbin_sub, pbi_int, pbi_lenT, pbi_tupT, isTup_tup, isTup_str, isTup_int, isTup_bl, isTup_non, isBl_bl, isBl_int, isBl_str, isInt_int, isInt_str, isStr_str, pcmp_lt, pcmp_le, pcmp_gt, pcmp_ge, pcmp_eqI, pcmp_neI, pcmp_eqS, pcmp_neS, pcmp_eqB, pcmp_isN, pcmp_isT, pcmp_isS, pcmp_isI, pcmp_isB, pcmp_isnotN, pcmp_isnotT, pcmp_isnotS, seq_tup, pidx_tup, atP_0, atP_1, atP_2, atP_3, SZ_le, SZ_lt, true_implies, false_implies, Bool.true_eq_false, Bool.false_eq_true, and_true, true_and, decide_eq_true_eq, decide_eq_false_iff_not, Bool.not_eq_true', Bool.not_eq_false', Nat.reduceLeDiff, Nat.reduceAdd, Nat.zero_le, Bool.not_true, Bool.not_false]
    exact ⟨0, rfl, hm, hB, hH, hlen⟩
end Mi.K6
set_option Elab.async false
set_option linter.all false
set_option maxRecDepth 100000
set_option maxHeartbeats 2000000
namespace Mi.K6
open Mi
theorem pick_ok {b d : Nat} {ds : List Int} {h : AH} {l n : Nat} {ys : List PV} (B : BoxAt b d ds h) (hl : h[l]? = some (.lst ys)) (hlb : l ≠ b) (hy : 0 < ys.length) : wC (callF P (n + 2)) 19 [.ref b, .ref l] h (fun v h' => v ∈ ys ∧ BoxAt b d ds h' ∧ Hb b h h') := by
  refine wC_of (d := ⟨2, 2, b19⟩) rfl rfl ?_
  show wS P _ b19 [some (.ref b), some (.ref l)] h _ _
  refine wS_cons (wS_ret ?_)
  simp only [wE_var, wE_non, wE_bl, wE_int, wE_str, wE_tup, wE_lst, wE_bin, wE_cmp, wE_and, wE_or, wE_not, wE_ite, wE_idx, wE_call, wE_bi, wE_mt, wL_nil, wL_cons, wR_some, wV_some, wB_some, wG_some, wX_some, wT_bl, wT_int, wT_non, wT_tup, bindP, bindPs, List.getElem?_cons_zero, List.getElem?_cons_succ, List.set_cons_zero, List.set_cons_succ, List.length_cons, List.length_nil, pbin_add, pbin_sub, pbi_int, pbi_lenT, pbi_tupT, isTup_tup, isTup_str, isTup_int, isTup_bl, isTup_non, isBl_bl, isBl_int, isBl_str, isInt_int, isInt_str, isStr_str, pcmp_lt, pcmp_le, pcmp_gt, pcmp_ge, pcmp_eqI, pcmp_neI, pcmp_eqS, pcmp_neS, pcmp_eqB, pcmp_isN, pcmp_isT, pcmp_isS, pcmp_isI, pcmp_isB, pcmp_isnotN, pcmp_isnotT, pcmp_isnotS, seq_tup, pidx_tup, atP_0, atP_1, atP_2, atP_3, SZ_le, SZ_lt, true_implies, false_implies, Bool.true_eq_false, Bool.false_eq_true, and_true, true_and, decide_eq_true_eq, decide_eq_false_iff_not, Bool.not_eq_true', Bool.not_eq_false', Nat.reduceLeDiff, Nat.reduceAdd, Nat.zero_le, Bool.not_true, Bool.not_false]
  refine wC_mono (draw_ok (many := 1000) B (by omega)) fun v h' ⟨r, hv, hr, B', H, _⟩ => ?_
  subst hv
  have hl' := H.1 l _ hlb hl
  have i1 : ∃ v, ys[(r % ys.length)]? = some v := ⟨ys[r % ys.length]'(Nat.mod_lt _ hy), List.getElem?_eq_getElem _⟩
  obtain ⟨v, hv⟩ := i1
  have hf : Int.fmod (r : Int) (ys.length : Int) = ((r % ys.length : Nat) : Int) := by
    rw [Int.fmod_eq_emod_of_nonneg _ (by omega)]; rfl
  simp only [wE_var, wE_non, wE_bl, wE_int, wE_str, wE_tup, wE_lst, wE_bin, wE_cmp, wE_and, wE_or, wE_not, wE_ite, wE_idx, wE_call, wE_bi, wE_mt, wL_nil, wL_cons, wR_some, wV_some, wB_some, wG_some, wX_some, wT_bl, wT_int, wT_non, wT_tup, bindP, bindPs, List.getElem?_cons_zero, List.getElem?_cons_succ, List.set_cons_zero, List.set_cons_succ, List.length_cons, List.length_nil, pbin_add, pbin_sub, pbi_int, pbi_lenT, pbi_tupT, isTup_tup, isTup_str, isTup_int, isTup_bl, isTup_non, isBl_bl, isBl_int, isBl_str, isInt_int, isInt_str, isStr_str, pcmp_lt, pcmp_le, pcmp_gt, pcmp_ge, pcmp_eqI, pcmp_neI, pcmp_eqS, pcmp_neS, pcmp_eqB, pcmp_isN, pcmp_isT, pcmp_isS, pcmp_isI, pcmp_isB, pcmp_isnotN, pcmp_isnotT, pcmp_isnotS, seq_tup, pidx_tup, atP_0, atP_1, atP_2, atP_3, SZ_le, SZ_lt, true_implies, false_implies, Bool.true_eq_false, Bool.false_eq_true, and_true, true_and, decide_eq_true_eq, decide_eq_false_iff_not, Bool.not_eq_true', Bool.not_eq_false', Nat.reduceLeDiff, Nat.reduceAdd, Nat.zero_le, Bool.not_true, Bool.not_false, pbi_len (seq_at hl'), pbin_mod (i := (r : Int)) (j := (ys.length : Int)) (h := h') (by omega), hf, pidx_seq (seq_at hl'), atP_nat hv]
  exact ⟨List.mem_of_getElem? hv, B', H⟩
theorem hx_new {h0 h h' : AH} {l : Nat} {o o' : AO} (k : Hx h0 h) (hl : h0.length ≤ l) (hh : h' = h.set l o) : Hx h0 h' := by subst hh; exact k.set hl
set_option maxHeartbeats 4000000 in
theorem digits_ok {ns : List Int} {x : PV} {h0 : AH} {n : Nat} (hx : seqOf x h0 = some (ns.map .int)) : wC (callF P (n + 2)) 15 [x, .int 0, .int 62] h0 (fun v h' => ∃ (l : Nat) (ds : List Int), v = .ref l ∧ h'[l]? = some (.lst (ds.map PV.int)) ∧ Hx h0 h' ∧ h0.length ≤ l) := by
  refine wC_of (d := ⟨3, 8, b15⟩) rfl rfl ?_
  show wS P _ b15 [some x, some (.int 0), some (.int 62), none, none, none, none, none] h0 _ _
  refine wS_cons (wS_asg rfl ?_)
  simp only [wE_var, wE_non, wE_bl, wE_int, wE_str, wE_tup, wE_lst, wE_bin, wE_cmp, wE_and, wE_or, wE_not, wE_ite, wE_idx, wE_call, wE_bi, wE_mt, wL_nil, wL_cons, wR_some, wV_some, wB_some, wG_some, wX_some, wT_bl, wT_int, wT_non, wT_tup, bindP, bindPs, List.getElem?_cons_zero, List.getElem?_cons_succ, List.set_cons_zero, List.set_cons_succ, List.length_cons, List.length_nil, pbin_add, pbin_sub, pbi_int, pbi_lenT, pbi_tupT, isTup_tup, isTup_str, isTup_int, isTup_bl, isTup_non, isBl_bl, isBl_int, isBl_str, isInt_int, isInt_str, isStr_str, pcmp_lt, pcmp_le, pcmp_gt, pcmp_ge, pcmp_eqI, pcmp_neI, pcmp_eqS, pcmp_neS, pcmp_eqB, pcmp_isN, pcmp_isT, pcmp_isS, pcmp_isI, pcmp_isB, pcmp_isnotN, pcmp_isnotT, pcmp_isnotS, seq_tup, pidx_tup, atP_0, atP_1, atP_2, atP_3, SZ_le, SZ_lt, true_implies, false_implies, Bool.true_eq_false, Bool.false_eq_true, and_true, true_and, decide_eq_true_eq, decide_eq_false_iff_not, Bool.not_eq_true', Bool.not_eq_false', Nat.reduceLeDiff, Nat.reduceAdd, Nat.zero_le, Bool.not_true, Bool.not_false]
  generalize hl : h0.length = l
  refine wS_cons (wS_for (List.range 62) (fun k : Nat => PV.int (0 + k)) (fun _ => True) (fun pre σ h => ∃ (a4 a5 a6 a7 : Option PV) (ds : List Int), σ = [some x, some (.int 0), some (.int 62), some (.ref l), a4, a5, a6, a7] ∧ h[l]? = some (.lst (ds.map PV.int)) ∧ ds.length ≤ 60 * pre.length ∧ Hx h0 h) ?_ (fun _ _ _ _ => trivial) ?_ ?_)
  · refine wI_range2 ?_
    simp only [wE_var, wE_non, wE_bl, wE_int, wE_str, wE_tup, wE_lst, wE_bin, wE_cmp, wE_and, wE_or, wE_not, wE_ite, wE_idx, wE_call, wE_bi, wE_mt, wL_nil, wL_cons, wR_some, wV_some, wB_some, wG_some, wX_some, wT_bl, wT_int, wT_non, wT_tup, bindP, bindPs, List.getElem?_cons_zero, List.getElem?_cons_succ, List.set_cons_zero, List.set_cons_succ, List.length_cons, List.length_nil, pbin_add, pbin_sub, pbi_int, pbi_lenT, pbi_tupT, isTup_tup, isTup_str, isTup_int, isTup_bl, isTup_non, isBl_bl, isBl_int, isBl_str, isInt_int, isInt_str, isStr_str, pcmp_lt, pcmp_le, pcmp_gt, pcmp_ge, pcmp_eqI, pcmp_neI, pcmp_eqS, pcmp_neS, pcmp_eqB, pcmp_isN, pcmp_isT, pcmp_isS, pcmp_isI, pcmp_isB, pcmp_isnotN, pcmp_isnotT, pcmp_isnotS, seq_tup, pidx_tup, atP_0, atP_1, atP_2, atP_3, SZ_le, SZ_lt, true_implies, false_implies, Bool.true_eq_false, Bool.false_eq_true, and_true, true_and, decide_eq_true_eq, decide_eq_false_iff_not, Bool.not_eq_true', Bool.not_eq_false', Nat.reduceLeDiff, Nat.reduceAdd, Nat.zero_le, Bool.not_true, Bool.not_false]
    exact ⟨0, 62, rfl, rfl, by decide, .inl rfl, _, _, _, _, [], rfl, by subst hl; simp, by simp, Hx.refl.app⟩
  · intro pre k post e σ h ⟨a4, a5, a6, a7, ds, hσ, hd, hlen, k0⟩
    subst hσ
    obtain ⟨rfl, hk⟩ := range_split e
    refine ⟨_, rfl, ?_⟩
    show wS P _ _ [some x, some (.int 0), some (.int 62), some (.ref l), some (.int (0 + (pre.length : Int))), a5, a6, a7] h _ _
    rw [Int.zero_add]
    refine wS_cons (wS_asg rfl ?_)
    simp only [wE_var, wE_non, wE_bl, wE_int, wE_str, wE_tup, wE_lst, wE_bin, wE_cmp, wE_and, wE_or, wE_not, wE_ite, wE_idx, wE_call, wE_bi, wE_mt, wL_nil, wL_cons, wR_some, wV_some, wB_some, wG_some, wX_some, wT_bl, wT_int, wT_non, wT_tup, bindP, bindPs, List.getElem?_cons_zero, List.getElem?_cons_succ, List.set_cons_zero, List.set_cons_succ, List.length_cons, List.length_nil, pbin_add, pbin_sub, pbi_int, pbi_lenT, pbi_tupT, isTup_tup, isTup_str, isTup_int, isTup_bl, isTup_non, isBl_bl, isBl_int, isBl_str, isInt_int, isInt_str, isStr_str, pcmp_lt, pcmp_le, pcmp_gt, pcmp_ge, pcmp_eqI, pcmp_neI, pcmp_eqS, pcmp_neS, pcmp_eqB, pcmp_isN, pcmp_isT, pcmp_isS, pcmp_isI, pcmp_isB, pcmp_isnotN, pcmp_isnotT, pcmp_isnotS, seq_tup, pidx_tup, atP_0, atP_1, atP_2, atP_3, SZ_le, SZ_lt, true_implies, false_implies, Bool.true_eq_false, Bool.false_eq_true, and_true, true_and, decide_eq_true_eq, decide_eq_false_iff_not, Bool.not_eq_true', Bool.not_eq_false', Nat.reduceLeDiff, Nat.reduceAdd, Nat.zero_le, Bool.not_true, Bool.not_false]
    refine wC_mono (cell_ok (k0.seq hx)) fun v h' ⟨c, hv, hh⟩ => ?_
    subst hv hh
    -- the sign
    refine wS_cons (wS_mono (N := fun σ h2 => ∃ c : Int, σ = [some x, some (.int 0), some (.int 62), some (.ref l), some (.int (pre.length : Int)), some (.int c), a6, a7] ∧ h2 = h') (R := fun _ _ => False) (wS_cond ?_) ?_ (fun _ _ z => z.elim))
    · simp only [wE_var, wE_non, wE_bl, wE_int, wE_str, wE_tup, wE_lst, wE_bin, wE_cmp, wE_and, wE_or, wE_not, wE_ite, wE_idx, wE_call, wE_bi, wE_mt, wL_nil, wL_cons, wR_some, wV_some, wB_some, wG_some, wX_some, wT_bl, wT_int, wT_non, wT_tup, bindP, bindPs, List.getElem?_cons_zero, List.getElem?_cons_succ, List.set_cons_zero, List.set_cons_succ, List.length_cons, List.length_nil, pbin_add, pbin_sub, pbi_int, pbi_lenT, pbi_tupT, isTup_tup, isTup_str, isTup_int, isTup_bl, isTup_non, isBl_bl, isBl_int, isBl_str, isInt_int, isInt_str, isStr_str, pcmp_lt, pcmp_le, pcmp_gt, pcmp_ge, pcmp_eqI, pcmp_neI, pcmp_eqS, pcmp_neS, pcmp_eqB, pcmp_isN, pcmp_isT, pcmp_isS, pcmp_isI, pcmp_isB, pcmp_isnotN, pcmp_isnotT, pcmp_isnotS, seq_tup, pidx_tup, atP_0, atP_1, atP_2, atP_3, SZ_le, SZ_lt, true_implies, false_implies, Bool.true_eq_false, Bool.false_eq_true, and_true, true_and, decide_eq_true_eq, decide_eq_false_iff_not, Bool.not_eq_true', Bool.not_eq_false', Nat.reduceLeDiff, Nat.reduceAdd, Nat.zero_le, Bool.not_true, Bool.not_false]
      constructor
      · intro _
        refine wS_cons (wS_asg rfl ?_)
        simp only [wE_var, wE_non, wE_bl, wE_int, wE_str, wE_tup, wE_lst, wE_bin, wE_cmp, wE_and, wE_or, wE_not, wE_ite, wE_idx, wE_call, wE_bi, wE_mt, wL_nil, wL_cons, wR_some, wV_some, wB_some, wG_some, wX_some, wT_bl, wT_int, wT_non, wT_tup, bindP, bindPs, List.getElem?_cons_zero, List.getElem?_cons_succ, List.set_cons_zero, List.set_cons_succ, List.length_cons, List.length_nil, pbin_add, pbin_sub, pbi_int, pbi_lenT, pbi_tupT, isTup_tup, isTup_str, isTup_int, isTup_bl, isTup_non, isBl_bl, isBl_int, isBl_str, isInt_int, isInt_str, isStr_str, pcmp_lt, pcmp_le, pcmp_gt, pcmp_ge, pcmp_eqI, pcmp_neI, pcmp_eqS, pcmp_neS, pcmp_eqB, pcmp_isN, pcmp_isT, pcmp_isS, pcmp_isI, pcmp_isB, pcmp_isnotN, pcmp_isnotT, pcmp_isnotS, seq_tup, pidx_tup, atP_0, atP_1, atP_2, atP_3, SZ_le, SZ_lt, true_implies, false_implies, Bool.true_eq_false, Bool.false_eq_true, and_true, true_and, decide_eq_true_eq, decide_eq_false_iff_not, Bool.not_eq_true', Bool.not_eq_false', Nat.reduceLeDiff, Nat.reduceAdd, Nat.zero_le, Bool.not_true, Bool.not_false, pbin_mul (i := 2) (j := c) (h := h') (by simp [small])]
        exact wS_nil ⟨_, rfl, rfl⟩
      · intro _
        exact wS_nil ⟨_, rfl, rfl⟩
    · rintro σ h2 ⟨c, rfl, rfl⟩
      refine wS_cons (wS_cond ?_)
      simp only [wE_var, wE_non, wE_bl, wE_int, wE_str, wE_tup, wE_lst, wE_bin, wE_cmp, wE_and, wE_or, wE_not, wE_ite, wE_idx, wE_call, wE_bi, wE_mt, wL_nil, wL_cons, wR_some, wV_some, wB_some, wG_some, wX_some, wT_bl, wT_int, wT_non, wT_tup, bindP, bindPs, List.getElem?_cons_zero, List.getElem?_cons_succ, List.set_cons_zero, List.set_cons_succ, List.length_cons, List.length_nil, pbin_add, pbin_sub, pbi_int, pbi_lenT, pbi_tupT, isTup_tup, isTup_str, isTup_int, isTup_bl, isTup_non, isBl_bl, isBl_int, isBl_str, isInt_int, isInt_str, isStr_str, pcmp_lt, pcmp_le, pcmp_gt, pcmp_ge, pcmp_eqI, pcmp_neI, pcmp_eqS, pcmp_neS, pcmp_eqB, pcmp_isN, pcmp_isT, pcmp_isS, pcmp_isI, pcmp_isB, pcmp_isnotN, pcmp_isnotT, pcmp_isnotS, seq_tup, pidx_tup, atP_0, atP_1, atP_2, atP_3, SZ_le, SZ_lt, true_implies, false_implies, Bool.true_eq_false, Bool.false_eq_true, and_true, true_and, decide_eq_true_eq, decide_eq_false_iff_not, Bool.not_eq_true', Bool.not_eq_false', Nat.reduceLeDiff, Nat.reduceAdd, Nat.zero_le, Bool.not_true, Bool.not_false, pbin_pow (i := 10) (j := 18) (h := h2) (by decide)]
      constructor
      · intro _
        refine wS_cons (wS_for (List.range 60) (fun k : Nat => PV.int k) (fun _ => True) (fun p2 σ h => ∃ (c : Int) (a6 : Option PV) (ds : List Int), σ = [some x, some (.int 0), some (.int 62), some (.ref l), some (.int (pre.length : Int)), some (.int c), a6, a7] ∧ h[l]? = some (.lst (ds.map PV.int)) ∧ ds.length ≤ 60 * pre.length + p2.length ∧ Hx h0 h) ?_ (fun _ _ _ _ => trivial) ?_ ?_)
        · refine wI_range1 ?_
          simp only [wE_var, wE_non, wE_bl, wE_int, wE_str, wE_tup, wE_lst, wE_bin, wE_cmp, wE_and, wE_or, wE_not, wE_ite, wE_idx, wE_call, wE_bi, wE_mt, wL_nil, wL_cons, wR_some, wV_some, wB_some, wG_some, wX_some, wT_bl, wT_int, wT_non, wT_tup, bindP, bindPs, List.getElem?_cons_zero, List.getElem?_cons_succ, List.set_cons_zero, List.set_cons_succ, List.length_cons, List.length_nil, pbin_add, pbin_sub, pbi_int, pbi_lenT, pbi_tupT, isTup_tup, isTup_str, isTup_int, isTup_bl, isTup_non, isBl_bl, isBl_int, isBl_str, isInt_int, isInt_str, isStr_str, pcmp_lt, pcmp_le, pcmp_gt, pcmp_ge, pcmp_eqI, pcmp_neI, pcmp_eqS, pcmp_neS, pcmp_eqB, pcmp_isN, pcmp_isT, pcmp_isS, pcmp_isI, pcmp_isB, pcmp_isnotN, pcmp_isnotT, pcmp_isnotS, seq_tup, pidx_tup, atP_0, atP_1, atP_2, atP_3, SZ_le, SZ_lt, true_implies, false_implies, Bool.true_eq_false, Bool.false_eq_true, and_true, true_and, decide_eq_true_eq, decide_eq_false_iff_not, Bool.not_eq_true', Bool.not_eq_false', Nat.reduceLeDiff, Nat.reduceAdd, Nat.zero_le, Bool.not_true, Bool.not_false]
          exact ⟨60, rfl, by decide, .inl rfl, c, _, ds, rfl, hd, by simp; omega, k0⟩
        · intro p2 k2 post2 e2 σ h ⟨c, a6, ds, hσ, hd, hlen, k1⟩
          subst hσ
          obtain ⟨rfl, hk2⟩ := range_split e2
          refine ⟨_, rfl, ?_⟩
          show wS P _ _ [some x, some (.int 0), some (.int 62), some (.ref l), some (.int (pre.length : Int)), some (.int c), some (.int (p2.length : Int)), a7] h _ _
          refine wS_cons (wS_cond ?_)
          simp only [wE_var, wE_non, wE_bl, wE_int, wE_str, wE_tup, wE_lst, wE_bin, wE_cmp, wE_and, wE_or, wE_not, wE_ite, wE_idx, wE_call, wE_bi, wE_mt, wL_nil, wL_cons, wR_some, wV_some, wB_some, wG_some, wX_some, wT_bl, wT_int, wT_non, wT_tup, bindP, bindPs, List.getElem?_cons_zero, List.getElem?_cons_succ, List.set_cons_zero, List.set_cons_succ, List.length_cons, List.length_nil, pbin_add, pbin_sub, pbi_int, pbi_lenT, pbi_tupT, isTup_tup, isTup_str, isTup_int, isTup_bl, isTup_non, isBl_bl, isBl_int, isBl_str, isInt_int, isInt_str, isStr_str, pcmp_lt, pcmp_le, pcmp_gt, pcmp_ge, pcmp_eqI, pcmp_neI, pcmp_eqS, pcmp_neS, pcmp_eqB, pcmp_isN, pcmp_isT, pcmp_isS, pcmp_isI, pcmp_isB, pcmp_isnotN, pcmp_isnotT, pcmp_isnotS, seq_tup, pidx_tup, atP_0, atP_1, atP_2, atP_3, SZ_le, SZ_lt, true_implies, false_implies, Bool.true_eq_false, Bool.false_eq_true, and_true, true_and, decide_eq_true_eq, decide_eq_false_iff_not, Bool.not_eq_true', Bool.not_eq_false', Nat.reduceLeDiff, Nat.reduceAdd, Nat.zero_le, Bool.not_true, Bool.not_false]
          constructor
          · intro _
            refine wS_cons (wS_expr ?_)
            simp only [wE_var, wE_non, wE_bl, wE_int, wE_str, wE_tup, wE_lst, wE_bin, wE_cmp, wE_and, wE_or, wE_not, wE_ite, wE_idx, wE_call, wE_bi, wE_mt, wL_nil, wL_cons, wR_some, wV_some, wB_some, wG_some, wX_some, wT_bl, wT_int, wT_non, wT_tup, bindP, bindPs, List.getElem?_cons_zero, List.getElem?_cons_succ, List.set_cons_zero, List.set_cons_succ, List.length_cons, List.length_nil, pbin_add, pbin_sub, pbi_int, pbi_lenT, pbi_tupT, isTup_tup, isTup_str, isTup_int, isTup_bl, isTup_non, isBl_bl, isBl_int, isBl_str, isInt_int, isInt_str, isStr_str, pcmp_lt, pcmp_le, pcmp_gt, pcmp_ge, pcmp_eqI, pcmp_neI, pcmp_eqS, pcmp_neS, pcmp_eqB, pcmp_isN, pcmp_isT, pcmp_isS, pcmp_isI, pcmp_isB, pcmp_isnotN, pcmp_isnotT, pcmp_isnotS, seq_tup, pidx_tup, atP_0, atP_1, atP_2, atP_3, SZ_le, SZ_lt, true_implies, false_implies, Bool.true_eq_false, Bool.false_eq_true, and_true, true_and, decide_eq_true_eq, decide_eq_false_iff_not, Bool.not_eq_true', Bool.not_eq_false', Nat.reduceLeDiff, Nat.reduceAdd, Nat.zero_le, Bool.not_true, Bool.not_false, okT_app hd, pbin_mod (i := c) (j := 1000) (h := h) (by decide), pmt_app hd (v := .int (Int.fmod c 1000)) (by simp [SZ]; omega)]
            refine wS_cons (wS_asg rfl ?_)
            simp only [wE_var, wE_non, wE_bl, wE_int, wE_str, wE_tup, wE_lst, wE_bin, wE_cmp, wE_and, wE_or, wE_not, wE_ite, wE_idx, wE_call, wE_bi, wE_mt, wL_nil, wL_cons, wR_some, wV_some, wB_some, wG_some, wX_some, wT_bl, wT_int, wT_non, wT_tup, bindP, bindPs, List.getElem?_cons_zero, List.getElem?_cons_succ, List.set_cons_zero, List.set_cons_succ, List.length_cons, List.length_nil, pbin_add, pbin_sub, pbi_int, pbi_lenT, pbi_tupT, isTup_tup, isTup_str, isTup_int, isTup_bl, isTup_non, isBl_bl, isBl_int, isBl_str, isInt_int, isInt_str, isStr_str, pcmp_lt, pcmp_le, pcmp_gt, pcmp_ge, pcmp_eqI, pcmp_neI, pcmp_eqS, pcmp_neS, pcmp_eqB, pcmp_isN, pcmp_isT, pcmp_isS, pcmp_isI, pcmp_isB, pcmp_isnotN, pcmp_isnotT, pcmp_isnotS, seq_tup, pidx_tup, atP_0, atP_1, atP_2, atP_3, SZ_le, SZ_lt, true_implies, false_implies, Bool.true_eq_false, Bool.false_eq_true, and_true, true_and, decide_eq_true_eq, decide_eq_false_iff_not, Bool.not_eq_true', Bool.not_eq_false', Nat.reduceLeDiff, Nat.reduceAdd, Nat.zero_le, Bool.not_true, Bool.not_false, pbin_fdiv (i := c) (j := 1000) (h := h.set l (.lst (ds.map PV.int ++ [.int (Int.fmod c 1000)]))) (by decide)]
            refine wS_nil (wS_nil ⟨_, _, ds ++ [Int.fmod c 1000], rfl, ?_, ?_, ?_⟩)
            · simp [(List.getElem?_eq_some_iff.mp hd).1]
            · simp; omega
            · exact k1.set (by omega)
          · intro _
            refine wS_nil (wS_nil ⟨c, _, ds, rfl, hd, by simp; omega, k1⟩)
        · intro σ h ⟨c, a6, ds, hσ, hd, hlen, k1⟩
          refine wS_nil (wS_nil ⟨_, _, _, _, ds, hσ, hd, ?_, k1⟩)
          simp at hlen ⊢; omega
      · intro _
        refine wS_cons (wS_asg rfl ?_)
        simp only [wE_var, wE_non, wE_bl, wE_int, wE_str, wE_tup, wE_lst, wE_bin, wE_cmp, wE_and, wE_or, wE_not, wE_ite, wE_idx, wE_call, wE_bi, wE_mt, wL_nil, wL_cons, wR_some, wV_some, wB_some, wG_some, wX_some, wT_bl, wT_int, wT_non, wT_tup, bindP, bindPs, List.getElem?_cons_zero, List.getElem?_cons_succ, List.set_cons_zero, List.set_cons_succ, List.length_cons, List.length_nil, pbin_add, pbin_sub, pbi_int, pbi_lenT, pbi_tupT, isTup_tup, isTup_str, isTup_int, isTup_bl, isTup_non, isBl_bl, isBl_int, isBl_str, isInt_int, isInt_str, isStr_str, pcmp_lt, pcmp_le, pcmp_gt, pcmp_ge, pcmp_eqI, pcmp_neI, pcmp_eqS, pcmp_neS, pcmp_eqB, pcmp_isN, pcmp_isT, pcmp_isS, pcmp_isI, pcmp_isB, pcmp_isnotN, pcmp_isnotT, pcmp_isnotS, seq_tup, pidx_tup, atP_0, atP_1, atP_2, atP_3, SZ_le, SZ_lt, true_implies, false_implies, Bool.true_eq_false, Bool.false_eq_true, and_true, true_and, decide_eq_true_eq, decide_eq_false_iff_not, Bool.not_eq_true', Bool.not_eq_false', Nat.reduceLeDiff, Nat.reduceAdd, Nat.zero_le, Bool.not_true, Bool.not_false, pbin_mul (i := c) (j := 48271) (h := h2) (by simp [small]), pbin_mul (i := (pre.length : Int)) (j := 69621) (h := h2) (by simp [small]), pbin_mod (i := c * 48271 + (pre.length : Int) * 69621 + 11) (j := 2147483647) (h := h2) (by decide)]
        refine wS_cons (wS_for (List.range 12) (fun k : Nat => PV.int k) (fun _ => True) (fun p2 σ h => ∃ (sd : Int) (a6 : Option PV) (ds : List Int), σ = [some x, some (.int 0), some (.int 62), some (.ref l), some (.int (pre.length : Int)), some (.int c), a6, some (.int sd)] ∧ h[l]? = some (.lst (ds.map PV.int)) ∧ ds.length ≤ 60 * pre.length + p2.length ∧ Hx h0 h) ?_ (fun _ _ _ _ => trivial) ?_ ?_)
        · refine wI_range1 ?_
          simp only [wE_var, wE_non, wE_bl, wE_int, wE_str, wE_tup, wE_lst, wE_bin, wE_cmp, wE_and, wE_or, wE_not, wE_ite, wE_idx, wE_call, wE_bi, wE_mt, wL_nil, wL_cons, wR_some, wV_some, wB_some, wG_some, wX_some, wT_bl, wT_int, wT_non, wT_tup, bindP, bindPs, List.getElem?_cons_zero, List.getElem?_cons_succ, List.set_cons_zero, List.set_cons_succ, List.length_cons, List.length_nil, pbin_add, pbin_sub, pbi_int, pbi_lenT, pbi_tupT, isTup_tup, isTup_str, isTup_int, isTup_bl, isTup_non, isBl_bl, isBl_int, isBl_str, isInt_int, isInt_str, isStr_str, pcmp_lt, pcmp_le, pcmp_gt, pcmp_ge, pcmp_eqI, pcmp_neI, pcmp_eqS, pcmp_neS, pcmp_eqB, pcmp_isN, pcmp_isT, pcmp_isS, pcmp_isI, pcmp_isB, pcmp_isnotN, pcmp_isnotT, pcmp_isnotS, seq_tup, pidx_tup, atP_0, atP_1, atP_2, atP_3, SZ_le, SZ_lt, true_implies, false_implies, Bool.true_eq_false, Bool.false_eq_true, and_true, true_and, decide_eq_true_eq, decide_eq_false_iff_not, Bool.not_eq_true', Bool.not_eq_false', Nat.reduceLeDiff, Nat.reduceAdd, Nat.zero_le, Bool.not_true, Bool.not_false]
          exact ⟨12, rfl, by decide, .inl rfl, _, _, ds, rfl, hd, by simp; omega, k0⟩
        · intro p2 k2 post2 e2 σ h ⟨sd, a6, ds, hσ, hd, hlen, k1⟩
          subst hσ
          obtain ⟨rfl, hk2⟩ := range_split e2
          refine ⟨_, rfl, ?_⟩
          show wS P _ _ [some x, some (.int 0), some (.int 62), some (.ref l), some (.int (pre.length : Int)), some (.int c), some (.int (p2.length : Int)), some (.int sd)] h _ _
          refine wS_cons (wS_asg rfl ?_)
          simp only [wE_var, wE_non, wE_bl, wE_int, wE_str, wE_tup, wE_lst, wE_bin, wE_cmp, wE_and, wE_or, wE_not, wE_ite, wE_idx, wE_call, wE_bi, wE_mt, wL_nil, wL_cons, wR_some, wV_some, wB_some, wG_some, wX_some, wT_bl, wT_int, wT_non, wT_tup, bindP, bindPs, List.getElem?_cons_zero, List.getElem?_cons_succ, List.set_cons_zero, List.set_cons_succ, List.length_cons, List.length_nil, pbin_add, pbin_sub, pbi_int, pbi_lenT, pbi_tupT, isTup_tup, isTup_str, isTup_int, isTup_bl, isTup_non, isBl_bl, isBl_int, isBl_str, isInt_int, isInt_str, isStr_str, pcmp_lt, pcmp_le, pcmp_gt, pcmp_ge, pcmp_eqI, pcmp_neI, pcmp_eqS, pcmp_neS, pcmp_eqB, pcmp_isN, pcmp_isT, pcmp_isS, pcmp_isI, pcmp_isB, pcmp_isnotN, pcmp_isnotT, pcmp_isnotS, seq_tup, pidx_tup, atP_0, atP_1, atP_2, atP_3, SZ_le, SZ_lt, true_implies, false_implies, Bool.true_eq_false, Bool.false_eq_true, and_true, true_and, decide_eq_true_eq, decide_eq_false_iff_not, Bool.not_eq_true', Bool.not_eq_false', Nat.reduceLeDiff, Nat.reduceAdd, Nat.zero_le, Bool.not_true, Bool.not_false, pbin_mul (i := sd) (j := 16807) (h := h) (by simp [small]), pbin_mul (i := 7) (j := (p2.length : Int)) (h := h) (by simp [small]), pbin_mod (i := sd * 16807 + 7 * (p2.length : Int) + 1) (j := 2147483647) (h := h) (by decide)]
          generalize Int.fmod (sd * 16807 + 7 * (p2.length : Int) + 1) 2147483647 = sd
          refine wS_cons (wS_expr ?_)
          simp only [wE_var, wE_non, wE_bl, wE_int, wE_str, wE_tup, wE_lst, wE_bin, wE_cmp, wE_and, wE_or, wE_not, wE_ite, wE_idx, wE_call, wE_bi, wE_mt, wL_nil, wL_cons, wR_some, wV_some, wB_some, wG_some, wX_some, wT_bl, wT_int, wT_non, wT_tup, bindP, bindPs, List.getElem?_cons_zero, List.getElem?_cons_succ, List.set_cons_zero, List.set_cons_succ, List.length_cons, List.length_nil, pbin_add, pbin_sub, pbi_int, pbi_lenT, pbi_tupT, isTup_tup, isTup_str, isTup_int, isTup_bl, isTup_non, isBl_bl, isBl_int, isBl_str, isInt_int, isInt_str, isStr_str, pcmp_lt, pcmp_le, pcmp_gt, pcmp_ge, pcmp_eqI, pcmp_neI, pcmp_eqS, pcmp_neS, pcmp_eqB, pcmp_isN, pcmp_isT, pcmp_isS, pcmp_isI, pcmp_isB, pcmp_isnotN, pcmp_isnotT, pcmp_isnotS, seq_tup, pidx_tup, atP_0, atP_1, atP_2, atP_3, SZ_le, SZ_lt, true_implies, false_implies, Bool.true_eq_false, Bool.false_eq_true, and_true, true_and, decide_eq_true_eq, decide_eq_false_iff_not, Bool.not_eq_true', Bool.not_eq_false', Nat.reduceLeDiff, Nat.reduceAdd, Nat.zero_le, Bool.not_true, Bool.not_false, okT_app hd, pbin_fdiv (i := sd) (j := 997) (h := h) (by decide), pbin_mod (i := Int.fdiv sd 997) (j := 1000) (h := h) (by decide), pmt_app hd (v := .int (Int.fmod (Int.fdiv sd 997) 1000)) (by simp [SZ]; omega)]
          refine wS_nil ⟨_, _, ds ++ [Int.fmod (Int.fdiv sd 997) 1000], rfl, ?_, ?_, ?_⟩
          · simp [(List.getElem?_eq_some_iff.mp hd).1]
          · simp; omega
          · exact k1.set (by omega)
        · intro σ h ⟨sd, a6, ds, hσ, hd, hlen, k1⟩
          refine wS_nil (wS_nil ⟨_, _, _, _, ds, hσ, hd, ?_, k1⟩)
          simp at hlen ⊢; omega
  · intro σ h ⟨a4, a5, a6, a7, ds, hσ, hd, hlen, k⟩
    subst hσ
    refine wS_cons (wS_ret ?_)
    simp only [wE_var, wE_non, wE_bl, wE_int, wE_str, wE_tup, wE_lst, wE_bin, wE_cmp, wE_and, wE_or, wE_not, wE_ite, wE_idx, wE_call, wE_bi, wE_mt, wL_nil, wL_cons, wR_some, wV_some, wB_some, wG_some, wX_some, wT_bl, wT_int, wT_non, wT_tup, bindP, bindPs, List.getElem?_cons_zero, List.getElem?_cons_succ, List.set_cons_zero, List.set_cons_succ, List.length_cons, List.length_nil, pbin_add, pbin_sub, pbi_int, pbi_lenT, pbi_tupT, isTup_tup, isTup_str, isTup_int, isTup_bl, isTup_non, isBl_bl, isBl_int, isBl_str, isInt_int, isInt_str, isStr_str, pcmp_lt, pcmp_le, pcmp_gt, pcmp_ge, pcmp_eqI, pcmp_neI, pcmp_eqS, pcmp_neS, pcmp_eqB, pcmp_isN, pcmp_isT, pcmp_isS, pcmp_isI, pcmp_isB, pcmp_isnotN, pcmp_isnotT, pcmp_isnotS, seq_tup, pidx_tup, atP_0, atP_1, atP_2, atP_3, SZ_le, SZ_lt, true_implies, false_implies, Bool.true_eq_false, Bool.false_eq_true, and_true, true_and, decide_eq_true_eq, decide_eq_false_iff_not, Bool.not_eq_true', Bool.not_eq_false', Nat.reduceLeDiff, Nat.reduceAdd, Nat.zero_le, Bool.not_true, Bool.not_false]
    exact ⟨l, ds, rfl, hd, k, by omega⟩
theorem box_ok {ns : List Int} {x : PV} {h0 : AH} {n : Nat} (hx : seqOf x h0 = some (ns.map .int)) : wC (callF P (n + 3)) 14 [x, .int 0, .int 62] h0 (fun v h' => ∃ (b d : Nat) (ds : List Int), v = .ref b ∧ BoxAt b d ds h' ∧ Hx h0 h') := by
  refine wC_of (d := ⟨3, 3, b14⟩) rfl rfl ?_
  show wS P _ b14 [some x, some (.int 0), some (.int 62)] h0 _ _
  refine wS_cons (wS_ret ?_)
  simp only [wE_var, wE_non, wE_bl, wE_int, wE_str, wE_tup, wE_lst, wE_bin, wE_cmp, wE_and, wE_or, wE_not, wE_ite, wE_idx, wE_call, wE_bi, wE_mt, wL_nil, wL_cons, wR_some, wV_some, wB_some, wG_some, wX_some, wT_bl, wT_int, wT_non, wT_tup, bindP, bindPs, List.getElem?_cons_zero, List.getElem?_cons_succ, List.set_cons_zero, List.set_cons_succ, List.length_cons, List.length_nil, pbin_add, pbin_sub, pbi_int, pbi_lenT, pbi_tupT, isTup_tup, isTup_str, isTup_int, isTup_bl, isTup_non, isBl_bl, isBl_int, isBl_str, isInt_int, isInt_str, isStr_str, pcmp_lt, pcmp_le, pcmp_gt, pcmp_ge, pcmp_eqI, pcmp_neI, pcmp_eqS, pcmp_neS, pcmp_eqB, pcmp_isN, pcmp_isT, pcmp_isS, pcmp_isI, pcmp_isB, pcmp_isnotN, pcmp_isnotT, pcmp_isnotS, seq_tup, pidx_tup, atP_0, atP_1, atP_2, atP_3, SZ_le, SZ_lt, true_implies, false_implies, Bool.true_eq_false, Bool.false_eq_true, and_true, true_and, decide_eq_true_eq, decide_eq_false_iff_not, Bool.not_eq_true', Bool.not_eq_false', Nat.reduceLeDiff, Nat.reduceAdd, Nat.zero_le, Bool.not_true, Bool.not_false]
  refine wC_mono (digits_ok hx) fun v h' ⟨l, ds, hv, hd, k, hl⟩ => ?_
  subst hv
  have hlt := (List.getElem?_eq_some_iff.mp hd).1
  exact ⟨_, l, ds, rfl, ⟨by omega, ⟨0, by simp⟩, by rw [List.getElem?_append_left hlt]; exact hd⟩, k.app⟩
end Mi.K6
set_option Elab.async false
set_option linter.all false
set_option maxRecDepth 100000
set_option maxHeartbeats 4000000
namespace Mi.K6
open Mi
theorem psl_lst {h : AH} {l : Nat} {xs : List PV} {lo hi : Option Int} (e : h[l]? = some (.lst xs)) : psl (.ref l) lo hi h = some (.ref h.length, h ++ [.lst (cutP xs lo hi)]) := by
  unfold psl alloc; simp [e]
def encM (m : Mk) : PV := .tup [.str m.1, .tup (m.2.map .str)]
def encD (d : Dt) : PV := .tup [.str d.1, .tup (d.2.map encM)]
def okp (nk : Nat) (p : Sg) : Prop := p = num ∨ p = tru ∨ ∃ i < nk, p = nm i
structure MkOk (nk k j : Nat) (m : Mk) : Prop where
  n : m.1 = mn j k
  l : m.2.length ≤ 2
  p : ∀ p ∈ m.2, okp nk p
structure DtOk (nk k : Nat) (d : Dt) : Prop where
  n : d.1 = nm k
  l : 1 ≤ d.2.length ∧ d.2.length ≤ 3
  m : ∀ (j : Nat) m, d.2[j]? = some m → MkOk nk k j m
theorem shape_of {D : List Dt} (h2 : 2 ≤ D.length) (h4 : D.length ≤ 4) (h : ∀ (k : Nat) d, D[k]? = some d → DtOk D.length k d) : Shape D := by
  refine ⟨h2, h4, fun k d e => (h k d e).n, fun d hd => ?_, fun k d j m e e2 => ((h k d e).m j m e2).n, fun d hd m hm => ?_⟩
  · obtain ⟨k, hk, e⟩ := List.mem_iff_getElem.mp hd
    exact (h k d (by rw [← e]; exact List.getElem?_eq_getElem hk)).l
  · obtain ⟨k, hk, e⟩ := List.mem_iff_getElem.mp hd
    have o := h k d (by rw [← e]; exact List.getElem?_eq_getElem hk)
    obtain ⟨j, hj, e2⟩ := List.mem_iff_getElem.mp hm
    have om := o.m j m (by rw [← e2]; exact List.getElem?_eq_getElem hj)
    refine ⟨om.l, fun p hp => ?_⟩
    rcases om.p p hp with z | z | ⟨i, hi, z⟩
    · exact .inl z
    · exact .inr (.inl z)
    · refine .inr (.inr ?_)
      rw [List.mem_map]
      exact ⟨D[i], List.getElem_mem hi, by rw [z]; exact (h i _ (List.getElem?_eq_getElem hi)).n⟩
/-- what is known of the heap -/
structure HF (b d : Nat) (ds : List Int) (ps : List (Nat × List PV)) (h : AH) : Prop where
  box : BoxAt b d ds h
  at_ : ∀ p ∈ ps, p.1 ≠ b ∧ h[p.1]? = some (.lst p.2)
section
variable {b d : Nat} {ds : List Int} {ps : List (Nat × List PV)} {h h' : AH}
theorem HF.hb (f : HF b d ds ps h) (k : Hb b h h') (B : BoxAt b d ds h') : HF b d ds ps h' := ⟨B, fun p hp => ⟨(f.at_ p hp).1, k.1 _ _ (f.at_ p hp).1 (f.at_ p hp).2⟩⟩
theorem HF.hx (f : HF b d ds ps h) (k : Hx h h') : HF b d ds ps h' := ⟨f.box.hx k, fun p hp => ⟨(f.at_ p hp).1, k _ _ (f.at_ p hp).2⟩⟩
theorem HF.lt (f : HF b d ds ps h) : b < h.length := by
  obtain ⟨_, ⟨p, e⟩, _⟩ := f.box
  exact (List.getElem?_eq_some_iff.mp e).1
theorem HF.new (f : HF b d ds ps h) (xs : List PV) : HF b d ds ((h.length, xs) :: ps) (h ++ [.lst xs]) := by
  have g := f.hx (h' := h ++ [.lst xs]) Hx.refl.app
  refine ⟨g.box, fun p hp => ?_⟩
  rcases List.mem_cons.mp hp with z | z
  · subst z; exact ⟨Nat.ne_of_gt f.lt, by simp⟩
  · exact g.at_ p z
theorem HF.sub {ps' : List (Nat × List PV)} (f : HF b d ds ps h) (s : ∀ p ∈ ps', p ∈ ps) : HF b d ds ps' h := ⟨f.box, fun p hp => f.at_ p (s p hp)⟩
end
theorem names_cut (r : Nat) (hr : r < 3) : cutP [PV.str [100, 97], .str [100, 98], .str [100, 99], .str [100, 100]] none (some (2 + (r : Int))) = (List.range (2 + r)).map fun k => PV.str (nm k) := by
  match r, hr with
  | 0, _ => rfl
  | 1, _ => rfl
  | 2, _ => rfl
theorem str_k (k : Nat) (hk : k < 4) : pbi .str [.int (k : Int)] = fun h => some (.str [48 + k], h) := by
  match k, hk with
  | 0, _ => rfl
  | 1, _ => rfl
  | 2, _ => rfl
  | 3, _ => rfl
theorem pqr_j (j : Nat) (hj : j < 3) : atP [PV.str [80], .str [81], .str [82]] (j : Int) = some (.str [80 + j]) := by
  match j, hj with
  | 0, _ => rfl
  | 1, _ => rfl
  | 2, _ => rfl
theorem parts_ok {b d ln : Nat} {ds : List Int} {ps : List (Nat × List PV)} {h : AH} {n nk : Nat} {a2 a3 a4 a5 a6 a7 : Option PV} {Q : PV → AH → Prop} (hnk : 2 ≤ nk ∧ nk ≤ 4)
    (F : HF b d ds ((ln, (List.range nk).map fun k => PV.str (nm k)) :: ps) h)
    (hQ : ∀ (h' : AH) (qs : List Sg), qs.length ≤ 2 → (∀ p ∈ qs, okp nk p) → HF b d ds ((ln, (List.range nk).map fun k => PV.str (nm k)) :: ps) h' → Q (.tup (qs.map .str)) h') :
    wE P (callF P (n + 2)) (.bi .tuple (.cons (.lc [7] (.var 7) (.range (.cons (.call 18 (.cons (.var 0) (.cons (.int (3)) .nil))) .nil)) (.bl true) (.call 19 (.cons (.var 0) (.cons (.bin .add (.lst (.cons (.str [110, 117, 109]) (.cons (.str [116, 114, 117, 116, 104]) .nil))) (.var 1)) .nil)))) .nil)) [some (.ref b), some (.ref ln), a2, a3, a4, a5, a6, a7] h Q := by
  generalize hN : ((List.range nk).map fun k => PV.str (nm k)) = N at F hQ
  have hNl : N.length = nk := by rw [← hN]; simp
  simp only [wE_var, wE_non, wE_bl, wE_int, wE_str, wE_tup, wE_lst, wE_bin, wE_cmp, wE_and, wE_or, wE_not, wE_ite, wE_idx, wE_call, wE_bi, wE_mt, wL_nil, wL_cons, wR_some, wV_some, wB_some, wG_some, wX_some, wT_bl, wT_int, wT_non, wT_tup, bindP, bindPs, wipeP, List.getElem?_cons_zero, List.getElem?_cons_succ, List.set_cons_zero, List.set_cons_succ, List.length_cons, List.length_nil, pbin_add, pbin_sub, pbi_int, pbi_lenT, pbi_tupT, isTup_tup, isTup_str, isTup_int, isTup_bl, isTup_non, isBl_bl, isBl_int, isBl_str, isInt_int, isInt_str, isStr_str, pcmp_lt, pcmp_le, pcmp_gt, pcmp_ge, pcmp_eqI, pcmp_neI, pcmp_eqS, pcmp_neS, pcmp_eqB, pcmp_isN, pcmp_isT, pcmp_isS, pcmp_isI, pcmp_isB, pcmp_isnotN, pcmp_isnotT, pcmp_isnotS, seq_tup, pidx_tup, atP_0, atP_1, atP_2, atP_3, SZ_le, SZ_lt, true_implies, false_implies, Bool.true_eq_false, Bool.false_eq_true, and_true, true_and, decide_eq_true_eq, decide_eq_false_iff_not, Bool.not_eq_true', Bool.not_eq_false', Nat.reduceLeDiff, Nat.reduceAdd, Nat.zero_le, Bool.not_true, Bool.not_false]
  refine wE_lc ?_
  refine wI_range1 ?_
  simp only [wE_var, wE_non, wE_bl, wE_int, wE_str, wE_tup, wE_lst, wE_bin, wE_cmp, wE_and, wE_or, wE_not, wE_ite, wE_idx, wE_call, wE_bi, wE_mt, wL_nil, wL_cons, wR_some, wV_some, wB_some, wG_some, wX_some, wT_bl, wT_int, wT_non, wT_tup, bindP, bindPs, wipeP, List.getElem?_cons_zero, List.getElem?_cons_succ, List.set_cons_zero, List.set_cons_succ, List.length_cons, List.length_nil, pbin_add, pbin_sub, pbi_int, pbi_lenT, pbi_tupT, isTup_tup, isTup_str, isTup_int, isTup_bl, isTup_non, isBl_bl, isBl_int, isBl_str, isInt_int, isInt_str, isStr_str, pcmp_lt, pcmp_le, pcmp_gt, pcmp_ge, pcmp_eqI, pcmp_neI, pcmp_eqS, pcmp_neS, pcmp_eqB, pcmp_isN, pcmp_isT, pcmp_isS, pcmp_isI, pcmp_isB, pcmp_isnotN, pcmp_isnotT, pcmp_isnotS, seq_tup, pidx_tup, atP_0, atP_1, atP_2, atP_3, SZ_le, SZ_lt, true_implies, false_implies, Bool.true_eq_false, Bool.false_eq_true, and_true, true_and, decide_eq_true_eq, decide_eq_false_iff_not, Bool.not_eq_true', Bool.not_eq_false', Nat.reduceLeDiff, Nat.reduceAdd, Nat.zero_le, Bool.not_true, Bool.not_false]
  refine wC_mono (draw_ok (many := 3) F.box (by omega)) fun v h1 ⟨r, hv, hr, B1, H1, _⟩ => ?_
  subst hv
  have F1 := F.hb H1 B1
  refine ⟨r, rfl, by omega, ?_⟩
  rw [Int.toNat_natCast]
  refine wW_ok (L := List.range r) (enc := fun i : Nat => PV.int i) (fun _ => True) (.inl rfl) (fun _ _ _ _ => trivial)
    (Inv := fun pre acc h => ∃ qs : List Sg, acc = qs.map PV.str ∧ qs.length = pre.length ∧ (∀ p ∈ qs, okp nk p) ∧ HF b d ds ((ln, N) :: ps) h) ⟨[], rfl, rfl, by simp, F1⟩ ?_ ?_
  · rintro pre x post e acc h2 ⟨qs, rfl, hl, hp, F2⟩
    obtain ⟨rfl, hx⟩ := range_split e
    refine wF_lc ⟨_, rfl, ?_⟩
    show wE P _ (.bl true) [some (.ref b), some (.ref ln), a2, a3, a4, a5, a6, some (.int _)] h2 _
    simp only [wE_var, wE_non, wE_bl, wE_int, wE_str, wE_tup, wE_lst, wE_bin, wE_cmp, wE_and, wE_or, wE_not, wE_ite, wE_idx, wE_call, wE_bi, wE_mt, wL_nil, wL_cons, wR_some, wV_some, wB_some, wG_some, wX_some, wT_bl, wT_int, wT_non, wT_tup, bindP, bindPs, wipeP, List.getElem?_cons_zero, List.getElem?_cons_succ, List.set_cons_zero, List.set_cons_succ, List.length_cons, List.length_nil, pbin_add, pbin_sub, pbi_int, pbi_lenT, pbi_tupT, isTup_tup, isTup_str, isTup_int, isTup_bl, isTup_non, isBl_bl, isBl_int, isBl_str, isInt_int, isInt_str, isStr_str, pcmp_lt, pcmp_le, pcmp_gt, pcmp_ge, pcmp_eqI, pcmp_neI, pcmp_eqS, pcmp_neS, pcmp_eqB, pcmp_isN, pcmp_isT, pcmp_isS, pcmp_isI, pcmp_isB, pcmp_isnotN, pcmp_isnotT, pcmp_isnotS, seq_tup, pidx_tup, atP_0, atP_1, atP_2, atP_3, SZ_le, SZ_lt, true_implies, false_implies, Bool.true_eq_false, Bool.false_eq_true, and_true, true_and, decide_eq_true_eq, decide_eq_false_iff_not, Bool.not_eq_true', Bool.not_eq_false', Nat.reduceLeDiff, Nat.reduceAdd, Nat.zero_le, Bool.not_true, Bool.not_false]
    have F3 := F2.new [PV.str [110, 117, 109], .str [116, 114, 117, 116, 104]]
    have e1 := (F3.at_ _ List.mem_cons_self).2
    have e2 := (F3.at_ (ln, N) (by simp)).2
    have e4 := pbin_addL e1 e2 (by simp [SZ, hNl]; omega)
    dsimp only at e4
    simp only [wE_var, wE_non, wE_bl, wE_int, wE_str, wE_tup, wE_lst, wE_bin, wE_cmp, wE_and, wE_or, wE_not, wE_ite, wE_idx, wE_call, wE_bi, wE_mt, wL_nil, wL_cons, wR_some, wV_some, wB_some, wG_some, wX_some, wT_bl, wT_int, wT_non, wT_tup, bindP, bindPs, wipeP, List.getElem?_cons_zero, List.getElem?_cons_succ, List.set_cons_zero, List.set_cons_succ, List.length_cons, List.length_nil, pbin_add, pbin_sub, pbi_int, pbi_lenT, pbi_tupT, isTup_tup, isTup_str, isTup_int, isTup_bl, isTup_non, isBl_bl, isBl_int, isBl_str, isInt_int, isInt_str, isStr_str, pcmp_lt, pcmp_le, pcmp_gt, pcmp_ge, pcmp_eqI, pcmp_neI, pcmp_eqS, pcmp_neS, pcmp_eqB, pcmp_isN, pcmp_isT, pcmp_isS, pcmp_isI, pcmp_isB, pcmp_isnotN, pcmp_isnotT, pcmp_isnotS, seq_tup, pidx_tup, atP_0, atP_1, atP_2, atP_3, SZ_le, SZ_lt, true_implies, false_implies, Bool.true_eq_false, Bool.false_eq_true, and_true, true_and, decide_eq_true_eq, decide_eq_false_iff_not, Bool.not_eq_true', Bool.not_eq_false', Nat.reduceLeDiff, Nat.reduceAdd, Nat.zero_le, Bool.not_true, Bool.not_false, e4]
    have F4 := F3.new ([PV.str [110, 117, 109], .str [116, 114, 117, 116, 104]] ++ N)
    have e3 := F4.at_ _ List.mem_cons_self
    refine wC_mono (pick_ok F4.box e3.2 e3.1 (by simp)) fun v h' ⟨hv, B', H'⟩ => ?_
    have hs : ∃ p, v = .str p ∧ okp nk p := by
      rcases List.mem_append.mp hv with z | z
      · rcases List.mem_cons.mp z with z | z
        · exact ⟨num, z, .inl rfl⟩
        · exact ⟨tru, List.mem_singleton.mp z, .inr (.inl rfl)⟩
      · rw [← hN] at z
        obtain ⟨i, hi, rfl⟩ := List.mem_map.mp z
        exact ⟨_, rfl, .inr (.inr ⟨i, List.mem_range.mp hi, rfl⟩)⟩
    obtain ⟨p, rfl, hok⟩ := hs
    refine ⟨by simp [SZ]; omega, qs ++ [p], by simp, by simp [hl], fun q hq => ?_, (F4.hb H' B').sub fun p hp => List.mem_cons_of_mem _ (List.mem_cons_of_mem _ hp)⟩
    rcases List.mem_append.mp hq with z | z
    · exact hp q z
    · rw [List.mem_singleton.mp z]; exact hok
  · rintro acc h2 ⟨qs, rfl, hl, hp, F2⟩
    rw [pbi_tup (x := .ref h2.length) (h := h2 ++ [AO.lst (qs.map PV.str)]) seq_new]
    simp only [wE_var, wE_non, wE_bl, wE_int, wE_str, wE_tup, wE_lst, wE_bin, wE_cmp, wE_and, wE_or, wE_not, wE_ite, wE_idx, wE_call, wE_bi, wE_mt, wL_nil, wL_cons, wR_some, wV_some, wB_some, wG_some, wX_some, wT_bl, wT_int, wT_non, wT_tup, bindP, bindPs, wipeP, List.getElem?_cons_zero, List.getElem?_cons_succ, List.set_cons_zero, List.set_cons_succ, List.length_cons, List.length_nil, pbin_add, pbin_sub, pbi_int, pbi_lenT, pbi_tupT, isTup_tup, isTup_str, isTup_int, isTup_bl, isTup_non, isBl_bl, isBl_int, isBl_str, isInt_int, isInt_str, isStr_str, pcmp_lt, pcmp_le, pcmp_gt, pcmp_ge, pcmp_eqI, pcmp_neI, pcmp_eqS, pcmp_neS, pcmp_eqB, pcmp_isN, pcmp_isT, pcmp_isS, pcmp_isI, pcmp_isB, pcmp_isnotN, pcmp_isnotT, pcmp_isnotS, seq_tup, pidx_tup, atP_0, atP_1, atP_2, atP_3, SZ_le, SZ_lt, true_implies, false_implies, Bool.true_eq_false, Bool.false_eq_true, and_true, true_and, decide_eq_true_eq, decide_eq_false_iff_not, Bool.not_eq_true', Bool.not_eq_false', Nat.reduceLeDiff, Nat.reduceAdd, Nat.zero_le, Bool.not_true, Bool.not_false]
    rw [List.length_range] at hl
    exact hQ _ qs (by omega) hp (F2.hx Hx.refl.app)
end Mi.K6
set_option Elab.async false
set_option linter.all false
set_option maxRecDepth 100000
set_option maxHeartbeats 4000000
namespace Mi.K6
open Mi
theorem HF.swap {b d : Nat} {ds : List Int} {ps : List (Nat × List PV)} {h : AH} {l : Nat} {xs ys : List PV} (f : HF b d ds ((l, xs) :: ps) h) (hd : l ≠ d) (hn : ∀ p ∈ ps, p.1 ≠ l) : HF b d ds ((l, ys) :: ps) (h.set l (.lst ys)) := by
  have hl := f.at_ _ List.mem_cons_self
  have hlt := (List.getElem?_eq_some_iff.mp hl.2).1
  obtain ⟨h1, ⟨p, h2⟩, h3⟩ := f.box
  refine ⟨⟨h1, ⟨p, by rw [List.getElem?_set_ne hl.1]; exact h2⟩, by rw [List.getElem?_set_ne hd]; exact h3⟩, fun q hq => ?_⟩
  rcases List.mem_cons.mp hq with z | z
  · subst z; exact ⟨hl.1, by simp [hlt]⟩
  · exact ⟨(f.at_ q (List.mem_cons_of_mem _ z)).1, by rw [List.getElem?_set_ne (Ne.symm (hn q z))]; exact (f.at_ q (List.mem_cons_of_mem _ z)).2⟩
theorem HF.ltp {b d : Nat} {ds : List Int} {ps : List (Nat × List PV)} {h : AH} (f : HF b d ds ps h) {p : Nat × List PV} (hp : p ∈ ps) : p.1 < h.length := (List.getElem?_eq_some_iff.mp (f.at_ p hp).2).1
theorem HF.ltd {b d : Nat} {ds : List Int} {ps : List (Nat × List PV)} {h : AH} (f : HF b d ds ps h) : d < h.length := (List.getElem?_eq_some_iff.mp f.box.2.2).1
theorem held_ok {b d : Nat} {ds : List Int} {h0 : AH} {n : Nat} (B : BoxAt b d ds h0) : wC (callF P (n + 3)) 17 [.ref b] h0 (fun v h' => ∃ D, Shape D ∧ v = .tup (D.map encD)) := by
  refine wC_of (d := ⟨1, 8, b17⟩) rfl rfl ?_
  show wS P _ b17 [some (.ref b), none, none, none, none, none, none, none] h0 _ _
  have F0 : HF b d ds [] h0 := ⟨B, fun _ hp => absurd hp List.not_mem_nil⟩
  refine wS_cons (wS_asg rfl ?_)
  simp only [wE_var, wE_non, wE_bl, wE_int, wE_str, wE_tup, wE_lst, wE_bin, wE_cmp, wE_and, wE_or, wE_not, wE_ite, wE_idx, wE_call, wE_bi, wE_mt, wL_nil, wL_cons, wR_some, wV_some, wB_some, wG_some, wX_some, wT_bl, wT_int, wT_non, wT_tup, bindP, bindPs, wipeP, List.getElem?_cons_zero, List.getElem?_cons_succ, List.set_cons_zero, List.set_cons_succ, List.length_cons, List.length_nil, pbin_add, pbin_sub, pbi_int, pbi_lenT, pbi_tupT, isTup_tup, isTup_str, isTup_int, isTup_bl, isTup_non, isBl_bl, isBl_int, isBl_str, isInt_int, isInt_str, isStr_str, pcmp_lt, pcmp_le, pcmp_gt, pcmp_ge, pcmp_eqI, pcmp_neI, pcmp_eqS, pcmp_neS, pcmp_eqB, pcmp_isN, pcmp_isT, pcmp_isS, pcmp_isI, pcmp_isB, pcmp_isnotN, pcmp_isnotT, pcmp_isnotS, seq_tup, pidx_tup, atP_0, atP_1, atP_2, atP_3, SZ_le, SZ_lt, true_implies, false_implies, Bool.true_eq_false, Bool.false_eq_true, and_true, true_and, decide_eq_true_eq, decide_eq_false_iff_not, Bool.not_eq_true', Bool.not_eq_false', Nat.reduceLeDiff, Nat.reduceAdd, Nat.zero_le, Bool.not_true, Bool.not_false, wE_sl]
  have F1 := F0.new [PV.str [100, 97], .str [100, 98], .str [100, 99], .str [100, 100]]
  generalize hl1 : h0.length = l1 at F1
  generalize hh1 : h0 ++ [AO.lst [PV.str [100, 97], .str [100, 98], .str [100, 99], .str [100, 100]]] = h1 at F1
  refine wC_mono (draw_ok (many := 3) F1.box (by omega)) fun v h2 ⟨r, hv, hr, B2, H2, _⟩ => ?_
  subst hv
  have F2 := F1.hb H2 B2
  simp only [wE_var, wE_non, wE_bl, wE_int, wE_str, wE_tup, wE_lst, wE_bin, wE_cmp, wE_and, wE_or, wE_not, wE_ite, wE_idx, wE_call, wE_bi, wE_mt, wL_nil, wL_cons, wR_some, wV_some, wB_some, wG_some, wX_some, wT_bl, wT_int, wT_non, wT_tup, bindP, bindPs, wipeP, List.getElem?_cons_zero, List.getElem?_cons_succ, List.set_cons_zero, List.set_cons_succ, List.length_cons, List.length_nil, pbin_add, pbin_sub, pbi_int, pbi_lenT, pbi_tupT, isTup_tup, isTup_str, isTup_int, isTup_bl, isTup_non, isBl_bl, isBl_int, isBl_str, isInt_int, isInt_str, isStr_str, pcmp_lt, pcmp_le, pcmp_gt, pcmp_ge, pcmp_eqI, pcmp_neI, pcmp_eqS, pcmp_neS, pcmp_eqB, pcmp_isN, pcmp_isT, pcmp_isS, pcmp_isI, pcmp_isB, pcmp_isnotN, pcmp_isnotT, pcmp_isnotS, seq_tup, pidx_tup, atP_0, atP_1, atP_2, atP_3, SZ_le, SZ_lt, true_implies, false_implies, Bool.true_eq_false, Bool.false_eq_true, and_true, true_and, decide_eq_true_eq, decide_eq_false_iff_not, Bool.not_eq_true', Bool.not_eq_false', Nat.reduceLeDiff, Nat.reduceAdd, Nat.zero_le, Bool.not_true, Bool.not_false]
  refine ⟨none, some (2 + (r : Int)), rfl, rfl, ?_⟩
  have p1 := psl_lst (lo := none) (hi := some (2 + (r : Int))) (F2.at_ _ List.mem_cons_self).2
  dsimp only at p1
  rw [names_cut r hr] at p1
  simp only [wE_var, wE_non, wE_bl, wE_int, wE_str, wE_tup, wE_lst, wE_bin, wE_cmp, wE_and, wE_or, wE_not, wE_ite, wE_idx, wE_call, wE_bi, wE_mt, wL_nil, wL_cons, wR_some, wV_some, wB_some, wG_some, wX_some, wT_bl, wT_int, wT_non, wT_tup, bindP, bindPs, wipeP, List.getElem?_cons_zero, List.getElem?_cons_succ, List.set_cons_zero, List.set_cons_succ, List.length_cons, List.length_nil, pbin_add, pbin_sub, pbi_int, pbi_lenT, pbi_tupT, isTup_tup, isTup_str, isTup_int, isTup_bl, isTup_non, isBl_bl, isBl_int, isBl_str, isInt_int, isInt_str, isStr_str, pcmp_lt, pcmp_le, pcmp_gt, pcmp_ge, pcmp_eqI, pcmp_neI, pcmp_eqS, pcmp_neS, pcmp_eqB, pcmp_isN, pcmp_isT, pcmp_isS, pcmp_isI, pcmp_isB, pcmp_isnotN, pcmp_isnotT, pcmp_isnotS, seq_tup, pidx_tup, atP_0, atP_1, atP_2, atP_3, SZ_le, SZ_lt, true_implies, false_implies, Bool.true_eq_false, Bool.false_eq_true, and_true, true_and, decide_eq_true_eq, decide_eq_false_iff_not, Bool.not_eq_true', Bool.not_eq_false', Nat.reduceLeDiff, Nat.reduceAdd, Nat.zero_le, Bool.not_true, Bool.not_false, p1]
  have hnk : 2 ≤ 2 + r ∧ 2 + r ≤ 4 := by omega
  generalize hnk' : 2 + r = nk at hnk p1 ⊢
  have F3 := F2.new ((List.range nk).map fun k => PV.str (nm k))
  generalize hln : h2.length = ln at F3
  generalize hh3 : h2 ++ [AO.lst ((List.range nk).map fun k => PV.str (nm k))] = h3 at F3
  refine wS_cons (wS_asg rfl ?_)
  simp only [wE_var, wE_non, wE_bl, wE_int, wE_str, wE_tup, wE_lst, wE_bin, wE_cmp, wE_and, wE_or, wE_not, wE_ite, wE_idx, wE_call, wE_bi, wE_mt, wL_nil, wL_cons, wR_some, wV_some, wB_some, wG_some, wX_some, wT_bl, wT_int, wT_non, wT_tup, bindP, bindPs, wipeP, List.getElem?_cons_zero, List.getElem?_cons_succ, List.set_cons_zero, List.set_cons_succ, List.length_cons, List.length_nil, pbin_add, pbin_sub, pbi_int, pbi_lenT, pbi_tupT, isTup_tup, isTup_str, isTup_int, isTup_bl, isTup_non, isBl_bl, isBl_int, isBl_str, isInt_int, isInt_str, isStr_str, pcmp_lt, pcmp_le, pcmp_gt, pcmp_ge, pcmp_eqI, pcmp_neI, pcmp_eqS, pcmp_neS, pcmp_eqB, pcmp_isN, pcmp_isT, pcmp_isS, pcmp_isI, pcmp_isB, pcmp_isnotN, pcmp_isnotT, pcmp_isnotS, seq_tup, pidx_tup, atP_0, atP_1, atP_2, atP_3, SZ_le, SZ_lt, true_implies, false_implies, Bool.true_eq_false, Bool.false_eq_true, and_true, true_and, decide_eq_true_eq, decide_eq_false_iff_not, Bool.not_eq_true', Bool.not_eq_false', Nat.reduceLeDiff, Nat.reduceAdd, Nat.zero_le, Bool.not_true, Bool.not_false]
  have F4 := F3.new []
  have hne : ln ≠ h3.length := Nat.ne_of_lt (F3.ltp List.mem_cons_self)
  have hnd : h3.length ≠ d := Nat.ne_of_gt F3.ltd
  generalize hlD : h3.length = lD at F4 hne hnd
  generalize hh4 : h3 ++ [AO.lst []] = h4 at F4
  generalize hN : ((List.range nk).map fun k => PV.str (nm k)) = N at F4
  have hNl : N.length = nk := by rw [← hN]; simp
  have F5 : HF b d ds [(lD, ([] : List Dt).map encD), (ln, N)] h4 := F4.sub fun p hp => by
    rcases List.mem_cons.mp hp with z | z
    · subst z; simp
    · rw [List.mem_singleton.mp z]; simp
  refine wS_cons (wS_for (List.range nk) (fun k : Nat => PV.int k) (fun _ => True) (fun pre σ h => ∃ (a3 a4 a5 a6 a7 : Option PV) (D : List Dt), σ = [some (.ref b), some (.ref ln), some (.ref lD), a3, a4, a5, a6, a7] ∧
      HF b d ds [(lD, D.map encD), (ln, N)] h ∧ D.length = pre.length ∧ ∀ (k : Nat) d, D[k]? = some d → DtOk nk k d) ?_ (fun _ _ _ _ => trivial) ?_ ?_)
  · refine wI_range1 ?_
    have e1 := (F4.at_ (ln, N) (by simp)).2
    simp only [wE_var, wE_non, wE_bl, wE_int, wE_str, wE_tup, wE_lst, wE_bin, wE_cmp, wE_and, wE_or, wE_not, wE_ite, wE_idx, wE_call, wE_bi, wE_mt, wL_nil, wL_cons, wR_some, wV_some, wB_some, wG_some, wX_some, wT_bl, wT_int, wT_non, wT_tup, bindP, bindPs, wipeP, List.getElem?_cons_zero, List.getElem?_cons_succ, List.set_cons_zero, List.set_cons_succ, List.length_cons, List.length_nil, pbin_add, pbin_sub, pbi_int, pbi_lenT, pbi_tupT, isTup_tup, isTup_str, isTup_int, isTup_bl, isTup_non, isBl_bl, isBl_int, isBl_str, isInt_int, isInt_str, isStr_str, pcmp_lt, pcmp_le, pcmp_gt, pcmp_ge, pcmp_eqI, pcmp_neI, pcmp_eqS, pcmp_neS, pcmp_eqB, pcmp_isN, pcmp_isT, pcmp_isS, pcmp_isI, pcmp_isB, pcmp_isnotN, pcmp_isnotT, pcmp_isnotS, seq_tup, pidx_tup, atP_0, atP_1, atP_2, atP_3, SZ_le, SZ_lt, true_implies, false_implies, Bool.true_eq_false, Bool.false_eq_true, and_true, true_and, decide_eq_true_eq, decide_eq_false_iff_not, Bool.not_eq_true', Bool.not_eq_false', Nat.reduceLeDiff, Nat.reduceAdd, Nat.zero_le, Bool.not_true, Bool.not_false, pbi_len (x := .ref ln) (h := h4) (seq_at e1)]
    refine ⟨N.length, rfl, by omega, .inl ?_, _, _, _, _, _, [], rfl, F5, rfl, fun k d e => by simp at e⟩
    rw [hNl]; rfl
  · rintro pre k post e σ h5 ⟨a3, a4, a5, a6, a7, D, rfl, F5, hDl, hD⟩
    obtain ⟨rfl, hk⟩ := range_split e
    generalize hkk : pre.length = k at hk
    refine ⟨_, rfl, ?_⟩
    show wS P _ _ [some (.ref b), some (.ref ln), some (.ref lD), some (.int (k : Int)), a4, a5, a6, a7] h5 _ _
    refine wS_cons (wS_asg rfl ?_)
    simp only [wE_var, wE_non, wE_bl, wE_int, wE_str, wE_tup, wE_lst, wE_bin, wE_cmp, wE_and, wE_or, wE_not, wE_ite, wE_idx, wE_call, wE_bi, wE_mt, wL_nil, wL_cons, wR_some, wV_some, wB_some, wG_some, wX_some, wT_bl, wT_int, wT_non, wT_tup, bindP, bindPs, wipeP, List.getElem?_cons_zero, List.getElem?_cons_succ, List.set_cons_zero, List.set_cons_succ, List.length_cons, List.length_nil, pbin_add, pbin_sub, pbi_int, pbi_lenT, pbi_tupT, isTup_tup, isTup_str, isTup_int, isTup_bl, isTup_non, isBl_bl, isBl_int, isBl_str, isInt_int, isInt_str, isStr_str, pcmp_lt, pcmp_le, pcmp_gt, pcmp_ge, pcmp_eqI, pcmp_neI, pcmp_eqS, pcmp_neS, pcmp_eqB, pcmp_isN, pcmp_isT, pcmp_isS, pcmp_isI, pcmp_isB, pcmp_isnotN, pcmp_isnotT, pcmp_isnotS, seq_tup, pidx_tup, atP_0, atP_1, atP_2, atP_3, SZ_le, SZ_lt, true_implies, false_implies, Bool.true_eq_false, Bool.false_eq_true, and_true, true_and, decide_eq_true_eq, decide_eq_false_iff_not, Bool.not_eq_true', Bool.not_eq_false', Nat.reduceLeDiff, Nat.reduceAdd, Nat.zero_le, Bool.not_true, Bool.not_false]
    have F6 := F5.new []
    have hm1 : lD ≠ h5.length := Nat.ne_of_lt (F5.ltp (p := (lD, _)) List.mem_cons_self)
    have hm2 : ln ≠ h5.length := Nat.ne_of_lt (F5.ltp (p := (ln, N)) (by simp))
    have hmd : h5.length ≠ d := Nat.ne_of_gt F5.ltd
    generalize hlm : h5.length = lm at F6 hm1 hm2 hmd
    generalize hh6 : h5 ++ [AO.lst []] = h6 at F6
    refine wS_cons (wS_mono (N := fun σ h => ∃ (a5 a6 a7 : Option PV) (M : List Mk), σ = [some (.ref b), some (.ref ln), some (.ref lD), some (.int (k : Int)), some (.ref lm), a5, a6, a7] ∧
        HF b d ds [(lm, M.map encM), (lD, D.map encD), (ln, N)] h ∧ (1 ≤ M.length ∧ M.length ≤ 3) ∧ ∀ (j : Nat) m, M[j]? = some m → MkOk nk k j m) (R := fun _ _ => False) ?_ ?_ (fun _ _ z => z.elim))
    · -- the makers
      have hI : wI P (callF P (n + 2)) (.range (.cons (.bin .add (.int (1)) (.call 18 (.cons (.var 0) (.cons (.int (3)) .nil)))) .nil)) [some (.ref b), some (.ref ln), some (.ref lD), some (.int (k : Int)), some (.ref lm), a5, a6, a7] h6 (fun i h7 => ∃ r2, r2 < 3 ∧ i = .fix ((List.range (1 + r2)).map fun j : Nat => PV.int j) ∧ HF b d ds [(lm, []), (lD, D.map encD), (ln, N)] h7) := by
        refine wI_range1 ?_
        simp only [wE_var, wE_non, wE_bl, wE_int, wE_str, wE_tup, wE_lst, wE_bin, wE_cmp, wE_and, wE_or, wE_not, wE_ite, wE_idx, wE_call, wE_bi, wE_mt, wL_nil, wL_cons, wR_some, wV_some, wB_some, wG_some, wX_some, wT_bl, wT_int, wT_non, wT_tup, bindP, bindPs, wipeP, List.getElem?_cons_zero, List.getElem?_cons_succ, List.set_cons_zero, List.set_cons_succ, List.length_cons, List.length_nil, pbin_add, pbin_sub, pbi_int, pbi_lenT, pbi_tupT, isTup_tup, isTup_str, isTup_int, isTup_bl, isTup_non, isBl_bl, isBl_int, isBl_str, isInt_int, isInt_str, isStr_str, pcmp_lt, pcmp_le, pcmp_gt, pcmp_ge, pcmp_eqI, pcmp_neI, pcmp_eqS, pcmp_neS, pcmp_eqB, pcmp_isN, pcmp_isT, pcmp_isS, pcmp_isI, pcmp_isB, pcmp_isnotN, pcmp_isnotT, pcmp_isnotS, seq_tup, pidx_tup, atP_0, atP_1, atP_2, atP_3, SZ_le, SZ_lt, true_implies, false_implies, Bool.true_eq_false, Bool.false_eq_true, and_true, true_and, decide_eq_true_eq, decide_eq_false_iff_not, Bool.not_eq_true', Bool.not_eq_false', Nat.reduceLeDiff, Nat.reduceAdd, Nat.zero_le, Bool.not_true, Bool.not_false]
        refine wC_mono (draw_ok (many := 3) F6.box (by omega)) fun v h7 ⟨r2, hv, hr2, B7, H7, _⟩ => ?_
        subst hv
        simp only [wE_var, wE_non, wE_bl, wE_int, wE_str, wE_tup, wE_lst, wE_bin, wE_cmp, wE_and, wE_or, wE_not, wE_ite, wE_idx, wE_call, wE_bi, wE_mt, wL_nil, wL_cons, wR_some, wV_some, wB_some, wG_some, wX_some, wT_bl, wT_int, wT_non, wT_tup, bindP, bindPs, wipeP, List.getElem?_cons_zero, List.getElem?_cons_succ, List.set_cons_zero, List.set_cons_succ, List.length_cons, List.length_nil, pbin_add, pbin_sub, pbi_int, pbi_lenT, pbi_tupT, isTup_tup, isTup_str, isTup_int, isTup_bl, isTup_non, isBl_bl, isBl_int, isBl_str, isInt_int, isInt_str, isStr_str, pcmp_lt, pcmp_le, pcmp_gt, pcmp_ge, pcmp_eqI, pcmp_neI, pcmp_eqS, pcmp_neS, pcmp_eqB, pcmp_isN, pcmp_isT, pcmp_isS, pcmp_isI, pcmp_isB, pcmp_isnotN, pcmp_isnotT, pcmp_isnotS, seq_tup, pidx_tup, atP_0, atP_1, atP_2, atP_3, SZ_le, SZ_lt, true_implies, false_implies, Bool.true_eq_false, Bool.false_eq_true, and_true, true_and, decide_eq_true_eq, decide_eq_false_iff_not, Bool.not_eq_true', Bool.not_eq_false', Nat.reduceLeDiff, Nat.reduceAdd, Nat.zero_le, Bool.not_true, Bool.not_false]
        refine ⟨1 + (r2 : Int), rfl, by omega, r2, hr2, ?_, F6.hb H7 B7⟩
        have : (1 + (r2 : Int)).toNat = 1 + r2 := by omega
        rw [this]
      obtain ⟨i, h7, e7, r2, hr2, rfl, F7⟩ := hI
      refine wS_for (List.range (1 + r2)) (fun j : Nat => PV.int j) (fun _ => True) (fun pre2 σ h => ∃ (a5 a6 a7 : Option PV) (M : List Mk), σ = [some (.ref b), some (.ref ln), some (.ref lD), some (.int (k : Int)), some (.ref lm), a5, a6, a7] ∧
        HF b d ds [(lm, M.map encM), (lD, D.map encD), (ln, N)] h ∧ M.length = pre2.length ∧ ∀ (j : Nat) m, M[j]? = some m → MkOk nk k j m) ⟨_, _, e7, .inl rfl, _, _, _, [], rfl, F7, rfl, fun j m e => by simp at e⟩ (fun _ _ _ _ => trivial) ?_ ?_
      · rintro pre2 j post2 e2 σ h8 ⟨a5, a6, a7, M, rfl, F8, hMl, hM⟩
        obtain ⟨rfl, hj⟩ := range_split e2
        generalize hjj : pre2.length = j at hj
        refine ⟨_, rfl, ?_⟩
        show wS P _ _ [some (.ref b), some (.ref ln), some (.ref lD), some (.int (k : Int)), some (.ref lm), some (.int (j : Int)), a6, a7] h8 _ _
        refine wS_cons (wS_asg rfl ?_)
        have F8' : HF b d ds ((ln, (List.range nk).map fun k => PV.str (nm k)) :: [(lm, M.map encM), (lD, D.map encD)]) h8 := F8.sub fun p hp => by
          rw [hN] at hp
          simp only [List.mem_cons, List.mem_singleton, List.not_mem_nil, or_false] at hp ⊢
          rcases hp with z | z | z
          · exact .inr (.inr z)
          · exact .inl z
          · exact .inr (.inl z)
        refine parts_ok hnk F8' fun h9 qs hq1 hq2 F9' => ?_
        have F9 : HF b d ds [(lm, M.map encM), (lD, D.map encD), (ln, N)] h9 := F9'.sub fun p hp => by
          rw [hN]
          simp only [List.mem_cons, List.mem_singleton, List.not_mem_nil, or_false] at hp ⊢
          rcases hp with z | z | z
          · exact .inr (.inl z)
          · exact .inr (.inr z)
          · exact .inl z
        simp only [wE_var, wE_non, wE_bl, wE_int, wE_str, wE_tup, wE_lst, wE_bin, wE_cmp, wE_and, wE_or, wE_not, wE_ite, wE_idx, wE_call, wE_bi, wE_mt, wL_nil, wL_cons, wR_some, wV_some, wB_some, wG_some, wX_some, wT_bl, wT_int, wT_non, wT_tup, bindP, bindPs, wipeP, List.getElem?_cons_zero, List.getElem?_cons_succ, List.set_cons_zero, List.set_cons_succ, List.length_cons, List.length_nil, pbin_add, pbin_sub, pbi_int, pbi_lenT, pbi_tupT, isTup_tup, isTup_str, isTup_int, isTup_bl, isTup_non, isBl_bl, isBl_int, isBl_str, isInt_int, isInt_str, isStr_str, pcmp_lt, pcmp_le, pcmp_gt, pcmp_ge, pcmp_eqI, pcmp_neI, pcmp_eqS, pcmp_neS, pcmp_eqB, pcmp_isN, pcmp_isT, pcmp_isS, pcmp_isI, pcmp_isB, pcmp_isnotN, pcmp_isnotT, pcmp_isnotS, seq_tup, pidx_tup, atP_0, atP_1, atP_2, atP_3, SZ_le, SZ_lt, true_implies, false_implies, Bool.true_eq_false, Bool.false_eq_true, and_true, true_and, decide_eq_true_eq, decide_eq_false_iff_not, Bool.not_eq_true', Bool.not_eq_false', Nat.reduceLeDiff, Nat.reduceAdd, Nat.zero_le, Bool.not_true, Bool.not_false]
        refine wS_cons (wS_expr ?_)
        have F10 := F9.new [PV.str [80], .str [81], .str [82]]
        have e1 := (F9.at_ (lm, M.map encM) (by simp)).2
        have e2 := (F10.at_ _ List.mem_cons_self).2
        have e3 := (F10.at_ (lm, M.map encM) (by simp)).2
        have s1 := str_k k (by omega)
        have c1 := pbin_addS (a := [80 + j]) (b := [48 + k]) (h := h9 ++ [AO.lst [PV.str [80], .str [81], .str [82]]]) (by simp [SZ])
        simp only [wE_var, wE_non, wE_bl, wE_int, wE_str, wE_tup, wE_lst, wE_bin, wE_cmp, wE_and, wE_or, wE_not, wE_ite, wE_idx, wE_call, wE_bi, wE_mt, wL_nil, wL_cons, wR_some, wV_some, wB_some, wG_some, wX_some, wT_bl, wT_int, wT_non, wT_tup, bindP, bindPs, wipeP, List.getElem?_cons_zero, List.getElem?_cons_succ, List.set_cons_zero, List.set_cons_succ, List.length_cons, List.length_nil, pbin_add, pbin_sub, pbi_int, pbi_lenT, pbi_tupT, isTup_tup, isTup_str, isTup_int, isTup_bl, isTup_non, isBl_bl, isBl_int, isBl_str, isInt_int, isInt_str, isStr_str, pcmp_lt, pcmp_le, pcmp_gt, pcmp_ge, pcmp_eqI, pcmp_neI, pcmp_eqS, pcmp_neS, pcmp_eqB, pcmp_isN, pcmp_isT, pcmp_isS, pcmp_isI, pcmp_isB, pcmp_isnotN, pcmp_isnotT, pcmp_isnotS, seq_tup, pidx_tup, atP_0, atP_1, atP_2, atP_3, SZ_le, SZ_lt, true_implies, false_implies, Bool.true_eq_false, Bool.false_eq_true, and_true, true_and, decide_eq_true_eq, decide_eq_false_iff_not, Bool.not_eq_true', Bool.not_eq_false', Nat.reduceLeDiff, Nat.reduceAdd, Nat.zero_le, Bool.not_true, Bool.not_false, okT_app e1, pidx_seq (x := .ref h9.length) (h := h9 ++ [AO.lst [PV.str [80], .str [81], .str [82]]]) (seq_at e2), pqr_j j (by omega), s1, c1, pmt_app e3 (v := .tup [.str ([80 + j] ++ [48 + k]), .tup (qs.map PV.str)]) (by simp [SZ]; omega)]
        refine wS_nil ⟨_, _, _, M ++ [(mn j k, qs)], rfl, ?_, by simp [hMl, hjj], fun j' m e => ?_⟩
        · have F11 : HF b d ds [(lm, M.map encM), (lD, D.map encD), (ln, N)] (h9 ++ [AO.lst [PV.str [80], .str [81], .str [82]]]) := F9.hx Hx.refl.app
          have := F11.swap (ys := M.map encM ++ [.tup [.str ([80 + j] ++ [48 + k]), .tup (qs.map PV.str)]]) hmd (fun p hp => by
            simp only [List.mem_cons, List.mem_singleton, List.not_mem_nil, or_false] at hp
            rcases hp with z | z <;> subst z
            · exact hm1
            · exact hm2)
          rw [List.map_append]
          exact this
        · by_cases z : j' < M.length
          · rw [List.getElem?_append_left z] at e; exact hM j' m e
          · have hj' : j' = M.length := by
              have := (List.getElem?_eq_some_iff.mp e).1
              simp at this; omega
            subst hj'
            rw [List.getElem?_append_right (Nat.le_refl _)] at e
            simp at e
            subst e
            exact ⟨by rw [hMl, hjj], hq1, hq2⟩
      · rintro σ h8 ⟨a5, a6, a7, M, rfl, F8, hMl, hM⟩
        rw [List.length_range] at hMl
        exact ⟨_, _, _, M, rfl, F8, by omega, hM⟩
    · rintro σ h8 ⟨a5, a6, a7, M, rfl, F8, hMl, hM⟩
      refine wS_cons (wS_expr ?_)
      have e1 := (F8.at_ (lD, D.map encD) (by simp)).2
      have e2 := (F8.at_ (ln, N) (by simp)).2
      have e3 := (F8.at_ (lm, M.map encM) (by simp)).2
      have i1 : atP N (k : Int) = some (.str (nm k)) := atP_nat (by rw [← hN]; simp [hk])
      simp only [wE_var, wE_non, wE_bl, wE_int, wE_str, wE_tup, wE_lst, wE_bin, wE_cmp, wE_and, wE_or, wE_not, wE_ite, wE_idx, wE_call, wE_bi, wE_mt, wL_nil, wL_cons, wR_some, wV_some, wB_some, wG_some, wX_some, wT_bl, wT_int, wT_non, wT_tup, bindP, bindPs, wipeP, List.getElem?_cons_zero, List.getElem?_cons_succ, List.set_cons_zero, List.set_cons_succ, List.length_cons, List.length_nil, pbin_add, pbin_sub, pbi_int, pbi_lenT, pbi_tupT, isTup_tup, isTup_str, isTup_int, isTup_bl, isTup_non, isBl_bl, isBl_int, isBl_str, isInt_int, isInt_str, isStr_str, pcmp_lt, pcmp_le, pcmp_gt, pcmp_ge, pcmp_eqI, pcmp_neI, pcmp_eqS, pcmp_neS, pcmp_eqB, pcmp_isN, pcmp_isT, pcmp_isS, pcmp_isI, pcmp_isB, pcmp_isnotN, pcmp_isnotT, pcmp_isnotS, seq_tup, pidx_tup, atP_0, atP_1, atP_2, atP_3, SZ_le, SZ_lt, true_implies, false_implies, Bool.true_eq_false, Bool.false_eq_true, and_true, true_and, decide_eq_true_eq, decide_eq_false_iff_not, Bool.not_eq_true', Bool.not_eq_false', Nat.reduceLeDiff, Nat.reduceAdd, Nat.zero_le, Bool.not_true, Bool.not_false, okT_app e1, pidx_seq (x := .ref ln) (h := h8) (seq_at e2), i1, pbi_tup (x := .ref lm) (h := h8) (seq_at e3), pmt_app e1 (v := .tup [.str (nm k), .tup (M.map encM)]) (by simp [SZ]; omega)]
      refine wS_nil ⟨_, _, _, _, _, D ++ [(nm k, M)], rfl, ?_, by simp [hDl, hkk], fun k' m e => ?_⟩
      · have F9 : HF b d ds [(lD, D.map encD), (ln, N)] h8 := F8.sub fun p hp => List.mem_cons_of_mem _ hp
        have := F9.swap (ys := D.map encD ++ [.tup [.str (nm k), .tup (M.map encM)]]) hnd (fun p hp => by
          rw [List.mem_singleton.mp hp]; exact hne)
        rw [List.map_append]
        exact this
      · by_cases z : k' < D.length
        · rw [List.getElem?_append_left z] at e; exact hD k' m e
        · have hj' : k' = D.length := by
            have := (List.getElem?_eq_some_iff.mp e).1
            simp at this; omega
          subst hj'
          rw [List.getElem?_append_right (Nat.le_refl _)] at e
          simp at e
          subst e
          rw [hDl, hkk]
          exact ⟨rfl, hMl, hM⟩
  · rintro σ h5 ⟨a3, a4, a5, a6, a7, D, rfl, F5, hDl, hD⟩
    refine wS_cons (wS_ret ?_)
    have e1 := (F5.at_ (lD, D.map encD) (by simp)).2
    simp only [wE_var, wE_non, wE_bl, wE_int, wE_str, wE_tup, wE_lst, wE_bin, wE_cmp, wE_and, wE_or, wE_not, wE_ite, wE_idx, wE_call, wE_bi, wE_mt, wL_nil, wL_cons, wR_some, wV_some, wB_some, wG_some, wX_some, wT_bl, wT_int, wT_non, wT_tup, bindP, bindPs, wipeP, List.getElem?_cons_zero, List.getElem?_cons_succ, List.set_cons_zero, List.set_cons_succ, List.length_cons, List.length_nil, pbin_add, pbin_sub, pbi_int, pbi_lenT, pbi_tupT, isTup_tup, isTup_str, isTup_int, isTup_bl, isTup_non, isBl_bl, isBl_int, isBl_str, isInt_int, isInt_str, isStr_str, pcmp_lt, pcmp_le, pcmp_gt, pcmp_ge, pcmp_eqI, pcmp_neI, pcmp_eqS, pcmp_neS, pcmp_eqB, pcmp_isN, pcmp_isT, pcmp_isS, pcmp_isI, pcmp_isB, pcmp_isnotN, pcmp_isnotT, pcmp_isnotS, seq_tup, pidx_tup, atP_0, atP_1, atP_2, atP_3, SZ_le, SZ_lt, true_implies, false_implies, Bool.true_eq_false, Bool.false_eq_true, and_true, true_and, decide_eq_true_eq, decide_eq_false_iff_not, Bool.not_eq_true', Bool.not_eq_false', Nat.reduceLeDiff, Nat.reduceAdd, Nat.zero_le, Bool.not_true, Bool.not_false, pbi_tup (x := .ref lD) (h := h5) (seq_at e1)]
    rw [List.length_range] at hDl
    exact ⟨D, shape_of (by omega) (by omega) (fun k d e => by rw [hDl]; exact hD k d e), rfl⟩
end Mi.K6
set_option Elab.async false
set_option linter.all false
set_option maxRecDepth 100000
set_option maxHeartbeats 4000000
namespace Mi.K6
open Mi
def fu : PV := .tup [.tup [.str [102], .tup [], .str num, .tup [.str num, .int 0]]]
def prog (D : List Dt) : PV := .tup [.str [112, 114, 111, 103, 114, 97, 109], .tup (D.map encD), fu]
def dkv (D : List Dt) : List (KeyP × PV) := D.map fun d => (.inr d.1, .tup (d.2.map encM))
theorem pairs_enc : ∀ D : List Dt, pairsOf (D.map encD) = some (dkv D)
  | [] => rfl
  | d :: D => by
    rw [List.map_cons]
    unfold encD pairsOf
    rw [show pairsOf (D.map fun d => PV.tup [.str d.1, .tup (d.2.map encM)]) = some (dkv D) from pairs_enc D]
    rfl
theorem merge_nodup : ∀ (kvs acc : List (KeyP × PV)), ((acc ++ kvs).map (·.1)).Nodup → mergeP acc kvs = acc ++ kvs
  | [], acc, _ => by simp [mergeP]
  | (k, v) :: r, acc, nd => by
    have hk : acc.any (fun kv => decide (kv.1 = k)) = false := by
      rw [List.any_eq_false]
      intro kv hkv z
      have z : kv.1 = k := of_decide_eq_true z
      rw [List.map_append, List.nodup_append] at nd
      exact nd.2.2 kv.1 (List.mem_map_of_mem hkv) k (by simp) z
    unfold mergeP putP
    rw [if_neg (by rw [hk]; simp)]
    have := merge_nodup r (acc ++ [(k, v)]) (by simpa using nd)
    rw [this]; simp
theorem dkv_nodup {D : List Dt} (nd : (D.map (·.1)).Nodup) : ((dkv D).map (·.1)).Nodup := by
  unfold dkv
  rw [List.map_map]
  have : (D.map ((fun kv : KeyP × PV => kv.1) ∘ fun d : Dt => ((.inr d.1 : KeyP), PV.tup (d.2.map encM)))) = (D.map (·.1)).map (fun x => (Sum.inr x : KeyP)) := by
    rw [List.map_map]; rfl
  rw [this]
  rw [List.nodup_iff_pairwise_ne, List.pairwise_map]
  exact (List.nodup_iff_pairwise_ne.mp nd).imp fun h z => h (Sum.inr.inj z)
theorem look_dkv (k : Sg) : ∀ D : List Dt, (lookP (dkv D) (.inr k)).getD (.tup []) = .tup ((lookD D k).map encM)
  | [] => rfl
  | d :: D => by
    have ih := look_dkv k D
    unfold lookP lookD dkv at ih ⊢
    rw [List.map_cons, List.find?_cons, List.find?_cons]
    by_cases h : d.1 = k
    · subst h; simp
    · have h' : ¬ ((Sum.inr d.1 : KeyP) = .inr k) := fun z => h (Sum.inr.inj z)
      simp only [h, h', decide_false]
      exact ih
theorem pbi_dict {D : List Dt} {h : AH} (nd : (D.map (·.1)).Nodup) : pbi .dict [.tup (D.map encD)] h = some (.ref h.length, h ++ [.dk (dkv D)]) := by
  unfold pbi alloc
  dsimp only
  rw [pairs_enc]
  dsimp only
  rw [merge_nodup _ _ (by simpa using dkv_nodup nd)]
  rfl
theorem get_ok {D : List Dt} {cl : Cl} {σ : Env1} {h : AH} {Q : PV → AH → Prop} {i : Nat} {k : Sg} (s : Shape D) (h0 : σ[0]? = some (some (prog D))) (hi : σ[i]? = some (some (.str k))) (hQ : ∀ h', Hx h h' → Q (.tup ((lookD D k).map encM)) h') :
    wE P cl (.mt .get (.bi .dict (.cons (.idx (.var 0) (.int (1))) .nil)) (.cons (.var i) (.cons (.tup .nil) .nil))) σ h Q := by
  have e1 : (h ++ [AO.dk (dkv D)])[h.length]? = some (.dk (dkv D)) := by simp
  simp only [wE_var, wE_non, wE_bl, wE_int, wE_str, wE_tup, wE_lst, wE_bin, wE_cmp, wE_and, wE_or, wE_not, wE_ite, wE_idx, wE_call, wE_bi, wE_mt, wL_nil, wL_cons, wR_some, wV_some, wB_some, wG_some, wX_some, wT_bl, wT_int, wT_non, wT_tup, bindP, bindPs, wipeP, List.getElem?_cons_zero, List.getElem?_cons_succ, List.set_cons_zero, List.set_cons_succ, List.length_cons, List.length_nil, pbin_add, pbin_sub, pbi_int, pbi_lenT, pbi_tupT, isTup_tup, isTup_str, isTup_int, isTup_bl, isTup_non, isBl_bl, isBl_int, isBl_str, isInt_int, isInt_str, isStr_str, pcmp_lt, pcmp_le, pcmp_gt, pcmp_ge, pcmp_eqI, pcmp_neI, pcmp_eqS, pcmp_neS, pcmp_eqB, pcmp_isN, pcmp_isT, pcmp_isS, pcmp_isI, pcmp_isB, pcmp_isnotN, pcmp_isnotT, pcmp_isnotS, seq_tup, pidx_tup, atP_0, atP_1, atP_2, atP_3, SZ_le, SZ_lt, true_implies, false_implies, Bool.true_eq_false, Bool.false_eq_true, and_true, true_and, decide_eq_true_eq, decide_eq_false_iff_not, Bool.not_eq_true', Bool.not_eq_false', Nat.reduceLeDiff, Nat.reduceAdd, Nat.zero_le, Bool.not_true, Bool.not_false, h0, hi, prog, pbi_dict s.nodup, okT_get e1, pmt_get e1, look_dkv]
  exact hQ _ Hx.refl.app
theorem makers_ok {D : List Dt} {h : AH} {n : Nat} {k : Sg} (s : Shape D) : wC (callF P (n + 1)) 2 [prog D, .str k] h (fun v h' => v = .tup ((lookD D k).map encM) ∧ Hx h h') := by
  refine wC_of (d := ⟨2, 2, b2⟩) rfl rfl ?_
  show wS P _ b2 [some (prog D), some (.str k)] h _ _
  refine wS_cons (wS_ret ?_)
  exact get_ok s rfl rfl fun h' k => ⟨rfl, k⟩
/-! has_values -/
theorem fil_le (ns t : List Sg) (k : Sg) (hk : k ∈ ns) (hn : k ∉ t) : (ns.filter fun x => decide (x ∉ t ++ [k])).length < (ns.filter fun x => decide (x ∉ t)).length := by
  induction ns with
  | nil => exact absurd hk List.not_mem_nil
  | cons a ns ih =>
    have mono : ∀ l : List Sg, (l.filter fun x => decide (x ∉ t ++ [k])).length ≤ (l.filter fun x => decide (x ∉ t)).length := by
      intro l
      induction l with
      | nil => simp
      | cons b l ih =>
        rw [List.filter_cons, List.filter_cons]
        by_cases h1 : b ∉ t ++ [k]
        · have h2 : b ∉ t := fun z => h1 (List.mem_append_left _ z)
          rw [if_pos (decide_eq_true h1), if_pos (decide_eq_true h2), List.length_cons, List.length_cons]; omega
        · rw [if_neg (by simpa using h1)]
          split
          · rw [List.length_cons]; omega
          · exact ih
    rw [List.filter_cons, List.filter_cons]
    by_cases h : a = k
    · subst h
      rw [if_neg (by simp), if_pos (decide_eq_true hn), List.length_cons]
      have := mono ns
      omega
    · have hk' : k ∈ ns := by
        rcases List.mem_cons.mp hk with z | z
        · exact absurd z.symm h
        · exact z
      have := ih hk'
      by_cases h1 : a ∉ t
      · have h2 : a ∉ t ++ [k] := by simp [h1, h]
        rw [if_pos (decide_eq_true h1), if_pos (decide_eq_true h2), List.length_cons, List.length_cons]; omega
      · have h2 : ¬ (a ∉ t ++ [k]) := fun z => h1 fun y => z (List.mem_append_left _ y)
        rw [if_neg (fun z => h1 (of_decide_eq_true z)), if_neg (fun z => h2 (of_decide_eq_true z))]; exact this
theorem hv_ok {D : List Dt} (s : Shape D) : ∀ (m N : Nat) (k : Sg) (tried : List Sg) (h : AH), m + 2 ≤ N → k ∈ uni D → ((D.map (·.1)).filter fun x => decide (x ∉ tried)).length ≤ m → tried.length + m ≤ 100 →
    wC (callF P N) 5 [prog D, .str k, .tup (tried.map .str)] h (fun v h' => v = .bl (hv D m k tried) ∧ Hx h h')
  | m, 0, _, _, _, hN, _, _, _ => absurd hN (by omega)
  | m, N + 1, k, tried, h, hN, hk, hu, hl => by
    refine wC_of (d := ⟨3, 6, b5⟩) rfl rfl ?_
    show wS P _ b5 [some (prog D), some (.str k), some (.tup (tried.map .str)), none, none, none] h _ _
    refine wS_cons (wS_cond ?_)
    have e1 : pcmp .in_ (.str k) (.tup [.str [110, 117, 109], .str [116, 114, 117, 116, 104]]) h = some (decide (k ∈ [num, tru])) := pin_strs (ks := [num, tru]) rfl
    simp only [wE_var, wE_non, wE_bl, wE_int, wE_str, wE_tup, wE_lst, wE_bin, wE_cmp, wE_and, wE_or, wE_not, wE_ite, wE_idx, wE_call, wE_bi, wE_mt, wL_nil, wL_cons, wR_some, wV_some, wB_some, wG_some, wX_some, wT_bl, wT_int, wT_non, wT_tup, bindP, bindPs, wipeP, List.getElem?_cons_zero, List.getElem?_cons_succ, List.set_cons_zero, List.set_cons_succ, List.length_cons, List.length_nil, pbin_add, pbin_sub, pbi_int, pbi_lenT, pbi_tupT, isTup_tup, isTup_str, isTup_int, isTup_bl, isTup_non, isBl_bl, isBl_int, isBl_str, isInt_int, isInt_str, isStr_str, pcmp_lt, pcmp_le, pcmp_gt, pcmp_ge, pcmp_eqI, pcmp_neI, pcmp_eqS, pcmp_neS, pcmp_eqB, pcmp_isN, pcmp_isT, pcmp_isS, pcmp_isI, pcmp_isB, pcmp_isnotN, pcmp_isnotT, pcmp_isnotS, seq_tup, pidx_tup, atP_0, atP_1, atP_2, atP_3, SZ_le, SZ_lt, true_implies, false_implies, Bool.true_eq_false, Bool.false_eq_true, and_true, true_and, decide_eq_true_eq, decide_eq_false_iff_not, Bool.not_eq_true', Bool.not_eq_false', Nat.reduceLeDiff, Nat.reduceAdd, Nat.zero_le, Bool.not_true, Bool.not_false, e1]
    refine ⟨fun c => ?_, fun c => ?_⟩
    · refine wS_cons (wS_ret ?_)
      simp only [wE_var, wE_non, wE_bl, wE_int, wE_str, wE_tup, wE_lst, wE_bin, wE_cmp, wE_and, wE_or, wE_not, wE_ite, wE_idx, wE_call, wE_bi, wE_mt, wL_nil, wL_cons, wR_some, wV_some, wB_some, wG_some, wX_some, wT_bl, wT_int, wT_non, wT_tup, bindP, bindPs, wipeP, List.getElem?_cons_zero, List.getElem?_cons_succ, List.set_cons_zero, List.set_cons_succ, List.length_cons, List.length_nil, pbin_add, pbin_sub, pbi_int, pbi_lenT, pbi_tupT, isTup_tup, isTup_str, isTup_int, isTup_bl, isTup_non, isBl_bl, isBl_int, isBl_str, isInt_int, isInt_str, isStr_str, pcmp_lt, pcmp_le, pcmp_gt, pcmp_ge, pcmp_eqI, pcmp_neI, pcmp_eqS, pcmp_neS, pcmp_eqB, pcmp_isN, pcmp_isT, pcmp_isS, pcmp_isI, pcmp_isB, pcmp_isnotN, pcmp_isnotT, pcmp_isnotS, seq_tup, pidx_tup, atP_0, atP_1, atP_2, atP_3, SZ_le, SZ_lt, true_implies, false_implies, Bool.true_eq_false, Bool.false_eq_true, and_true, true_and, decide_eq_true_eq, decide_eq_false_iff_not, Bool.not_eq_true', Bool.not_eq_false', Nat.reduceLeDiff, Nat.reduceAdd, Nat.zero_le, Bool.not_true, Bool.not_false]
      have : k = num ∨ k = tru := by simpa using c
      refine ⟨?_, Hx.refl⟩
      cases m <;> (unfold hv; simp [this])
    · have hc : ¬ (k = num ∨ k = tru) := by simpa using c
      refine wS_nil (wS_cons (wS_cond ?_))
      have e2 : pcmp .in_ (.str k) (.tup (tried.map .str)) h = some (decide (k ∈ tried)) := pin_strs rfl
      simp only [wE_var, wE_non, wE_bl, wE_int, wE_str, wE_tup, wE_lst, wE_bin, wE_cmp, wE_and, wE_or, wE_not, wE_ite, wE_idx, wE_call, wE_bi, wE_mt, wL_nil, wL_cons, wR_some, wV_some, wB_some, wG_some, wX_some, wT_bl, wT_int, wT_non, wT_tup, bindP, bindPs, wipeP, List.getElem?_cons_zero, List.getElem?_cons_succ, List.set_cons_zero, List.set_cons_succ, List.length_cons, List.length_nil, pbin_add, pbin_sub, pbi_int, pbi_lenT, pbi_tupT, isTup_tup, isTup_str, isTup_int, isTup_bl, isTup_non, isBl_bl, isBl_int, isBl_str, isInt_int, isInt_str, isStr_str, pcmp_lt, pcmp_le, pcmp_gt, pcmp_ge, pcmp_eqI, pcmp_neI, pcmp_eqS, pcmp_neS, pcmp_eqB, pcmp_isN, pcmp_isT, pcmp_isS, pcmp_isI, pcmp_isB, pcmp_isnotN, pcmp_isnotT, pcmp_isnotS, seq_tup, pidx_tup, atP_0, atP_1, atP_2, atP_3, SZ_le, SZ_lt, true_implies, false_implies, Bool.true_eq_false, Bool.false_eq_true, and_true, true_and, decide_eq_true_eq, decide_eq_false_iff_not, Bool.not_eq_true', Bool.not_eq_false', Nat.reduceLeDiff, Nat.reduceAdd, Nat.zero_le, Bool.not_true, Bool.not_false, e2]
      refine ⟨fun c2 => ?_, fun c2 => ?_⟩
      · refine wS_cons (wS_ret ?_)
        simp only [wE_var, wE_non, wE_bl, wE_int, wE_str, wE_tup, wE_lst, wE_bin, wE_cmp, wE_and, wE_or, wE_not, wE_ite, wE_idx, wE_call, wE_bi, wE_mt, wL_nil, wL_cons, wR_some, wV_some, wB_some, wG_some, wX_some, wT_bl, wT_int, wT_non, wT_tup, bindP, bindPs, wipeP, List.getElem?_cons_zero, List.getElem?_cons_succ, List.set_cons_zero, List.set_cons_succ, List.length_cons, List.length_nil, pbin_add, pbin_sub, pbi_int, pbi_lenT, pbi_tupT, isTup_tup, isTup_str, isTup_int, isTup_bl, isTup_non, isBl_bl, isBl_int, isBl_str, isInt_int, isInt_str, isStr_str, pcmp_lt, pcmp_le, pcmp_gt, pcmp_ge, pcmp_eqI, pcmp_neI, pcmp_eqS, pcmp_neS, pcmp_eqB, pcmp_isN, pcmp_isT, pcmp_isS, pcmp_isI, pcmp_isB, pcmp_isnotN, pcmp_isnotT, pcmp_isnotS, seq_tup, pidx_tup, atP_0, atP_1, atP_2, atP_3, SZ_le, SZ_lt, true_implies, false_implies, Bool.true_eq_false, Bool.false_eq_true, and_true, true_and, decide_eq_true_eq, decide_eq_false_iff_not, Bool.not_eq_true', Bool.not_eq_false', Nat.reduceLeDiff, Nat.reduceAdd, Nat.zero_le, Bool.not_true, Bool.not_false]
        refine ⟨?_, Hx.refl⟩
        cases m <;> (unfold hv; simp [hc, c2])
      · refine wS_nil (wS_cons (wS_ret ?_))
        have hn : k ∈ D.map (·.1) := by
          rcases List.mem_cons.mp hk with z | z
          · exact absurd (.inl z) hc
          · rcases List.mem_cons.mp z with z | z
            · exact absurd (.inr z) hc
            · exact z
        cases m with
        | zero =>
          exfalso
          have : (D.map (·.1)).filter (fun x => decide (x ∉ tried)) = [] := List.length_eq_zero_iff.mp (by omega)
          rw [List.filter_eq_nil_iff] at this
          exact this k hn (decide_eq_true c2)
        | succ m =>
          obtain ⟨N', rfl⟩ : ∃ N', N = N' + 1 := ⟨N - 1, by omega⟩
          have hfil := fil_le (D.map (·.1)) tried k hn c2
          refine gen_any (L := lookD D k) (enc := encM) (fun m' => m'.2.all fun p => hv D m p (tried ++ [k])) ?_ ?_ ?_
          · refine wI_itrT ?_
            simp only [wE_var, wE_non, wE_bl, wE_int, wE_str, wE_tup, wE_lst, wE_bin, wE_cmp, wE_and, wE_or, wE_not, wE_ite, wE_idx, wE_call, wE_bi, wE_mt, wL_nil, wL_cons, wR_some, wV_some, wB_some, wG_some, wX_some, wT_bl, wT_int, wT_non, wT_tup, bindP, bindPs, wipeP, List.getElem?_cons_zero, List.getElem?_cons_succ, List.set_cons_zero, List.set_cons_succ, List.length_cons, List.length_nil, pbin_add, pbin_sub, pbi_int, pbi_lenT, pbi_tupT, isTup_tup, isTup_str, isTup_int, isTup_bl, isTup_non, isBl_bl, isBl_int, isBl_str, isInt_int, isInt_str, isStr_str, pcmp_lt, pcmp_le, pcmp_gt, pcmp_ge, pcmp_eqI, pcmp_neI, pcmp_eqS, pcmp_neS, pcmp_eqB, pcmp_isN, pcmp_isT, pcmp_isS, pcmp_isI, pcmp_isB, pcmp_isnotN, pcmp_isnotT, pcmp_isnotS, seq_tup, pidx_tup, atP_0, atP_1, atP_2, atP_3, SZ_le, SZ_lt, true_implies, false_implies, Bool.true_eq_false, Bool.false_eq_true, and_true, true_and, decide_eq_true_eq, decide_eq_false_iff_not, Bool.not_eq_true', Bool.not_eq_false', Nat.reduceLeDiff, Nat.reduceAdd, Nat.zero_le, Bool.not_true, Bool.not_false]
            exact wC_mono (makers_ok s) fun v h' ⟨hv, k⟩ => ⟨_, hv, rfl, k⟩
          · rintro ⟨mn', qs⟩ hx h' k'
            refine ⟨_, rfl, ?_⟩
            refine gen_all (L := qs) (enc := PV.str) (fun p => hv D m p (tried ++ [k])) ?_ ?_ ?_
            · refine wI_itrT ?_
              simp only [wE_var, wE_non, wE_bl, wE_int, wE_str, wE_tup, wE_lst, wE_bin, wE_cmp, wE_and, wE_or, wE_not, wE_ite, wE_idx, wE_call, wE_bi, wE_mt, wL_nil, wL_cons, wR_some, wV_some, wB_some, wG_some, wX_some, wT_bl, wT_int, wT_non, wT_tup, bindP, bindPs, wipeP, List.getElem?_cons_zero, List.getElem?_cons_succ, List.set_cons_zero, List.set_cons_succ, List.length_cons, List.length_nil, pbin_add, pbin_sub, pbi_int, pbi_lenT, pbi_tupT, isTup_tup, isTup_str, isTup_int, isTup_bl, isTup_non, isBl_bl, isBl_int, isBl_str, isInt_int, isInt_str, isStr_str, pcmp_lt, pcmp_le, pcmp_gt, pcmp_ge, pcmp_eqI, pcmp_neI, pcmp_eqS, pcmp_neS, pcmp_eqB, pcmp_isN, pcmp_isT, pcmp_isS, pcmp_isI, pcmp_isB, pcmp_isnotN, pcmp_isnotT, pcmp_isnotS, seq_tup, pidx_tup, atP_0, atP_1, atP_2, atP_3, SZ_le, SZ_lt, true_implies, false_implies, Bool.true_eq_false, Bool.false_eq_true, and_true, true_and, decide_eq_true_eq, decide_eq_false_iff_not, Bool.not_eq_true', Bool.not_eq_false', Nat.reduceLeDiff, Nat.reduceAdd, Nat.zero_le, Bool.not_true, Bool.not_false]
              exact ⟨_, rfl, rfl, Hx.refl⟩
            · intro p hp h2 k2
              refine ⟨_, rfl, ?_⟩
              have c3 := pbin_addT (xs := tried.map PV.str) (ys := [PV.str k]) (h := h2) (by simp [SZ]; omega)
              simp only [wE_var, wE_non, wE_bl, wE_int, wE_str, wE_tup, wE_lst, wE_bin, wE_cmp, wE_and, wE_or, wE_not, wE_ite, wE_idx, wE_call, wE_bi, wE_mt, wL_nil, wL_cons, wR_some, wV_some, wB_some, wG_some, wX_some, wT_bl, wT_int, wT_non, wT_tup, bindP, bindPs, wipeP, List.getElem?_cons_zero, List.getElem?_cons_succ, List.set_cons_zero, List.set_cons_succ, List.length_cons, List.length_nil, pbin_add, pbin_sub, pbi_int, pbi_lenT, pbi_tupT, isTup_tup, isTup_str, isTup_int, isTup_bl, isTup_non, isBl_bl, isBl_int, isBl_str, isInt_int, isInt_str, isStr_str, pcmp_lt, pcmp_le, pcmp_gt, pcmp_ge, pcmp_eqI, pcmp_neI, pcmp_eqS, pcmp_neS, pcmp_eqB, pcmp_isN, pcmp_isT, pcmp_isS, pcmp_isI, pcmp_isB, pcmp_isnotN, pcmp_isnotT, pcmp_isnotS, seq_tup, pidx_tup, atP_0, atP_1, atP_2, atP_3, SZ_le, SZ_lt, true_implies, false_implies, Bool.true_eq_false, Bool.false_eq_true, and_true, true_and, decide_eq_true_eq, decide_eq_false_iff_not, Bool.not_eq_true', Bool.not_eq_false', Nat.reduceLeDiff, Nat.reduceAdd, Nat.zero_le, Bool.not_true, Bool.not_false, c3]
              have := hv_ok s m (N' + 1) p (tried ++ [k]) h2 (by omega) ?_ (by omega) (by simp; omega)
              · rw [List.map_append] at this
                exact this
              · obtain ⟨d, hd, _, hm⟩ := look_mem hx
                unfold uni
                rcases (s.prt d hd _ hm).2 p hp with z | z | z
                · subst z; simp
                · subst z; simp
                · exact List.mem_cons_of_mem _ (List.mem_cons_of_mem _ z)
            · intro h2 k2
              exact ⟨rfl, k2⟩
          · intro h' k'
            refine ⟨?_, k'⟩
            rw [hv]
            simp [hc, c2]
end Mi.K6
set_option Elab.async false
set_option linter.all false
set_option maxRecDepth 100000
set_option maxHeartbeats 4000000
namespace Mi.K6
open Mi
theorem own_ok {cl : Cl} {a0 a1 a3 a4 a6 a7 a8 a9 : Option PV} {l : Nat} {M : List Mk} {F : List Sg} {h : AH} {Q : PV → AH → Prop} (hM : M.length ≤ 100 ∧ ∀ m ∈ M, m.2.length ≤ 100) (hl : h[l]? = some (.lst (F.map .str))) (hQ : ∀ (h' : AH) (k : Nat) (xs : List PV), h'[k]? = some (.lst xs) → xs.length = (M.filter (okM F)).length → Hx h h' → Q (.ref k) h') :
    wE P cl (.lc [7, 8] (.tup (.cons (.var 7) (.cons (.var 8) .nil))) (.itr (.var 5)) (.cmp .eq (.bi .len (.cons (.lc [9] (.var 9) (.itr (.var 8)) (.cmp .notin (.var 9) (.var 2)) (.int (1))) .nil)) (.int (0))) (.int (1))) [a0, a1, some (.ref l), a3, a4, some (.tup (M.map encM)), a6, a7, a8, a9] h Q := by
  refine lc_pure (L := M) (enc := encM) (okM F) (fun _ => .int 1) ?_ ?_ (by simp [SZ]; omega) fun h' k => hQ _ _ ((M.filter (okM F)).map fun _ => PV.int 1) (by simp) (by simp) k.app
  · refine wI_itrT ?_
    simp only [wE_var, wE_non, wE_bl, wE_int, wE_str, wE_tup, wE_lst, wE_bin, wE_cmp, wE_and, wE_or, wE_not, wE_ite, wE_idx, wE_call, wE_bi, wE_mt, wL_nil, wL_cons, wR_some, wV_some, wB_some, wG_some, wX_some, wT_bl, wT_int, wT_non, wT_tup, bindP, bindPs, wipeP, List.getElem?_cons_zero, List.getElem?_cons_succ, List.set_cons_zero, List.set_cons_succ, List.length_cons, List.length_nil, pbin_add, pbin_sub, pbi_int, pbi_lenT, pbi_tupT, isTup_tup, isTup_str, isTup_int, isTup_bl, isTup_non, isBl_bl, isBl_int, isBl_str, isInt_int, isInt_str, isStr_str, pcmp_lt, pcmp_le, pcmp_gt, pcmp_ge, pcmp_eqI, pcmp_neI, pcmp_eqS, pcmp_neS, pcmp_eqB, pcmp_isN, pcmp_isT, pcmp_isS, pcmp_isI, pcmp_isB, pcmp_isnotN, pcmp_isnotT, pcmp_isnotS, seq_tup, pidx_tup, atP_0, atP_1, atP_2, atP_3, SZ_le, SZ_lt, true_implies, false_implies, Bool.true_eq_false, Bool.false_eq_true, and_true, true_and, decide_eq_true_eq, decide_eq_false_iff_not, Bool.not_eq_true', Bool.not_eq_false', Nat.reduceLeDiff, Nat.reduceAdd, Nat.zero_le, Bool.not_true, Bool.not_false]
    exact ⟨_, rfl, rfl, Hx.refl⟩
  · rintro ⟨mn', qs⟩ hm h' k
    have hq := hM.2 _ hm
    dsimp only at hq
    refine ⟨_, rfl, ?_⟩
    simp only [wE_var, wE_non, wE_bl, wE_int, wE_str, wE_tup, wE_lst, wE_bin, wE_cmp, wE_and, wE_or, wE_not, wE_ite, wE_idx, wE_call, wE_bi, wE_mt, wL_nil, wL_cons, wR_some, wV_some, wB_some, wG_some, wX_some, wT_bl, wT_int, wT_non, wT_tup, bindP, bindPs, wipeP, List.getElem?_cons_zero, List.getElem?_cons_succ, List.set_cons_zero, List.set_cons_succ, List.length_cons, List.length_nil, pbin_add, pbin_sub, pbi_int, pbi_lenT, pbi_tupT, isTup_tup, isTup_str, isTup_int, isTup_bl, isTup_non, isBl_bl, isBl_int, isBl_str, isInt_int, isInt_str, isStr_str, pcmp_lt, pcmp_le, pcmp_gt, pcmp_ge, pcmp_eqI, pcmp_neI, pcmp_eqS, pcmp_neS, pcmp_eqB, pcmp_isN, pcmp_isT, pcmp_isS, pcmp_isI, pcmp_isB, pcmp_isnotN, pcmp_isnotT, pcmp_isnotS, seq_tup, pidx_tup, atP_0, atP_1, atP_2, atP_3, SZ_le, SZ_lt, true_implies, false_implies, Bool.true_eq_false, Bool.false_eq_true, and_true, true_and, decide_eq_true_eq, decide_eq_false_iff_not, Bool.not_eq_true', Bool.not_eq_false', Nat.reduceLeDiff, Nat.reduceAdd, Nat.zero_le, Bool.not_true, Bool.not_false]
    refine lc_pure (L := qs) (enc := PV.str) (fun p => decide (p ∉ F)) (fun _ => .int 1) ?_ ?_ (by simp [SZ]; omega) fun h2 k2 => ?_
    · refine wI_itrT ?_
      simp only [wE_var, wE_non, wE_bl, wE_int, wE_str, wE_tup, wE_lst, wE_bin, wE_cmp, wE_and, wE_or, wE_not, wE_ite, wE_idx, wE_call, wE_bi, wE_mt, wL_nil, wL_cons, wR_some, wV_some, wB_some, wG_some, wX_some, wT_bl, wT_int, wT_non, wT_tup, bindP, bindPs, wipeP, List.getElem?_cons_zero, List.getElem?_cons_succ, List.set_cons_zero, List.set_cons_succ, List.length_cons, List.length_nil, pbin_add, pbin_sub, pbi_int, pbi_lenT, pbi_tupT, isTup_tup, isTup_str, isTup_int, isTup_bl, isTup_non, isBl_bl, isBl_int, isBl_str, isInt_int, isInt_str, isStr_str, pcmp_lt, pcmp_le, pcmp_gt, pcmp_ge, pcmp_eqI, pcmp_neI, pcmp_eqS, pcmp_neS, pcmp_eqB, pcmp_isN, pcmp_isT, pcmp_isS, pcmp_isI, pcmp_isB, pcmp_isnotN, pcmp_isnotT, pcmp_isnotS, seq_tup, pidx_tup, atP_0, atP_1, atP_2, atP_3, SZ_le, SZ_lt, true_implies, false_implies, Bool.true_eq_false, Bool.false_eq_true, and_true, true_and, decide_eq_true_eq, decide_eq_false_iff_not, Bool.not_eq_true', Bool.not_eq_false', Nat.reduceLeDiff, Nat.reduceAdd, Nat.zero_le, Bool.not_true, Bool.not_false]
      exact ⟨_, rfl, rfl, Hx.refl⟩
    · intro p hp h2 k2
      refine ⟨_, rfl, ?_⟩
      have e1 := pnotin_strs (y := .ref l) (h := h2) (s := p) (ks := F) ((k.trans k2).seq (seq_at hl))
      simp only [wE_var, wE_non, wE_bl, wE_int, wE_str, wE_tup, wE_lst, wE_bin, wE_cmp, wE_and, wE_or, wE_not, wE_ite, wE_idx, wE_call, wE_bi, wE_mt, wL_nil, wL_cons, wR_some, wV_some, wB_some, wG_some, wX_some, wT_bl, wT_int, wT_non, wT_tup, bindP, bindPs, wipeP, List.getElem?_cons_zero, List.getElem?_cons_succ, List.set_cons_zero, List.set_cons_succ, List.length_cons, List.length_nil, pbin_add, pbin_sub, pbi_int, pbi_lenT, pbi_tupT, isTup_tup, isTup_str, isTup_int, isTup_bl, isTup_non, isBl_bl, isBl_int, isBl_str, isInt_int, isInt_str, isStr_str, pcmp_lt, pcmp_le, pcmp_gt, pcmp_ge, pcmp_eqI, pcmp_neI, pcmp_eqS, pcmp_neS, pcmp_eqB, pcmp_isN, pcmp_isT, pcmp_isS, pcmp_isI, pcmp_isB, pcmp_isnotN, pcmp_isnotT, pcmp_isnotS, seq_tup, pidx_tup, atP_0, atP_1, atP_2, atP_3, SZ_le, SZ_lt, true_implies, false_implies, Bool.true_eq_false, Bool.false_eq_true, and_true, true_and, decide_eq_true_eq, decide_eq_false_iff_not, Bool.not_eq_true', Bool.not_eq_false', Nat.reduceLeDiff, Nat.reduceAdd, Nat.zero_le, Bool.not_true, Bool.not_false, e1]
      exact ⟨by simp, Hx.refl, fun _ => Hx.refl⟩
    · have e1 : seqOf (.ref h2.length) (h2 ++ [AO.lst ((qs.filter fun p => decide (p ∉ F)).map fun _ => PV.int 1)]) = some ((qs.filter fun p => decide (p ∉ F)).map fun _ => PV.int 1) := seq_new
      simp only [wE_var, wE_non, wE_bl, wE_int, wE_str, wE_tup, wE_lst, wE_bin, wE_cmp, wE_and, wE_or, wE_not, wE_ite, wE_idx, wE_call, wE_bi, wE_mt, wL_nil, wL_cons, wR_some, wV_some, wB_some, wG_some, wX_some, wT_bl, wT_int, wT_non, wT_tup, bindP, bindPs, wipeP, List.getElem?_cons_zero, List.getElem?_cons_succ, List.set_cons_zero, List.set_cons_succ, List.length_cons, List.length_nil, pbin_add, pbin_sub, pbi_int, pbi_lenT, pbi_tupT, isTup_tup, isTup_str, isTup_int, isTup_bl, isTup_non, isBl_bl, isBl_int, isBl_str, isInt_int, isInt_str, isStr_str, pcmp_lt, pcmp_le, pcmp_gt, pcmp_ge, pcmp_eqI, pcmp_neI, pcmp_eqS, pcmp_neS, pcmp_eqB, pcmp_isN, pcmp_isT, pcmp_isS, pcmp_isI, pcmp_isB, pcmp_isnotN, pcmp_isnotT, pcmp_isnotS, seq_tup, pidx_tup, atP_0, atP_1, atP_2, atP_3, SZ_le, SZ_lt, true_implies, false_implies, Bool.true_eq_false, Bool.false_eq_true, and_true, true_and, decide_eq_true_eq, decide_eq_false_iff_not, Bool.not_eq_true', Bool.not_eq_false', Nat.reduceLeDiff, Nat.reduceAdd, Nat.zero_le, Bool.not_true, Bool.not_false, pbi_len e1]
      refine ⟨?_, k2.app, fun _ => Hx.refl⟩
      unfold okM
      rw [Bool.eq_iff_iff, decide_eq_true_iff, List.all_eq_true]
      dsimp only
      constructor
      · intro z p hp
        rw [List.length_map] at z
        have z : (qs.filter fun p => decide (p ∉ F)).length = 0 := by omega
        rw [List.length_eq_zero_iff, List.filter_eq_nil_iff] at z
        have := z p hp
        simpa using this
      · intro z
        have : (qs.filter fun p => decide (p ∉ F)) = [] := by
          rw [List.filter_eq_nil_iff]
          intro p hp y
          exact of_decide_eq_true y (of_decide_eq_true (z p hp))
        rw [this]; rfl
theorem filled_ok {D : List Dt} {wo : List Sg} {w : Nat} {h0 : AH} {n : Nat} (s : Shape D) (hw : h0[w]? = some (.lst (wo.map .str))) :
    wC (callF P (n + 1)) 20 [.tup (D.map encD), .ref w] h0 (fun v h' => ∃ l, v = .ref l ∧ h'[l]? = some (.lst ((filled D wo).map .str)) ∧ Hx h0 h') := by
  refine wC_of (d := ⟨2, 10, b20⟩) rfl rfl ?_
  show wS P _ b20 [some (.tup (D.map encD)), some (.ref w), none, none, none, none, none, none, none, none] h0 _ _
  refine wS_cons (wS_asg rfl ?_)
  simp only [wE_var, wE_non, wE_bl, wE_int, wE_str, wE_tup, wE_lst, wE_bin, wE_cmp, wE_and, wE_or, wE_not, wE_ite, wE_idx, wE_call, wE_bi, wE_mt, wL_nil, wL_cons, wR_some, wV_some, wB_some, wG_some, wX_some, wT_bl, wT_int, wT_non, wT_tup, bindP, bindPs, wipeP, List.getElem?_cons_zero, List.getElem?_cons_succ, List.set_cons_zero, List.set_cons_succ, List.length_cons, List.length_nil, pbin_add, pbin_sub, pbi_int, pbi_lenT, pbi_tupT, isTup_tup, isTup_str, isTup_int, isTup_bl, isTup_non, isBl_bl, isBl_int, isBl_str, isInt_int, isInt_str, isStr_str, pcmp_lt, pcmp_le, pcmp_gt, pcmp_ge, pcmp_eqI, pcmp_neI, pcmp_eqS, pcmp_neS, pcmp_eqB, pcmp_isN, pcmp_isT, pcmp_isS, pcmp_isI, pcmp_isB, pcmp_isnotN, pcmp_isnotT, pcmp_isnotS, seq_tup, pidx_tup, atP_0, atP_1, atP_2, atP_3, SZ_le, SZ_lt, true_implies, false_implies, Bool.true_eq_false, Bool.false_eq_true, and_true, true_and, decide_eq_true_eq, decide_eq_false_iff_not, Bool.not_eq_true', Bool.not_eq_false', Nat.reduceLeDiff, Nat.reduceAdd, Nat.zero_le, Bool.not_true, Bool.not_false]
  have hwl := (List.getElem?_eq_some_iff.mp hw).1
  have k0 : Hx h0 (h0 ++ [AO.lst [PV.str [110, 117, 109], .str [116, 114, 117, 116, 104]]]) := Hx.refl.app
  have hl0 : (h0 ++ [AO.lst [PV.str [110, 117, 109], .str [116, 114, 117, 116, 104]]])[h0.length]? = some (.lst ((fiter D wo 0).map .str)) := by simp [fiter, num, tru]
  generalize hl : h0.length = l at hl0 hwl
  generalize h0 ++ [AO.lst [PV.str [110, 117, 109], .str [116, 114, 117, 116, 104]]] = h1 at k0 hl0
  refine wS_cons (wS_for (List.range 5) (fun k : Nat => PV.int k) (fun _ => True) (fun pre σ h => ∃ (a3 a4 a5 a6 a7 a8 a9 : Option PV), σ = [some (.tup (D.map encD)), some (.ref w), some (.ref l), a3, a4, a5, a6, a7, a8, a9] ∧
      h[l]? = some (.lst ((fiter D wo pre.length).map .str)) ∧ Hx h0 h) ?_ (fun _ _ _ _ => trivial) ?_ ?_)
  · refine wI_range1 ?_
    simp only [wE_var, wE_non, wE_bl, wE_int, wE_str, wE_tup, wE_lst, wE_bin, wE_cmp, wE_and, wE_or, wE_not, wE_ite, wE_idx, wE_call, wE_bi, wE_mt, wL_nil, wL_cons, wR_some, wV_some, wB_some, wG_some, wX_some, wT_bl, wT_int, wT_non, wT_tup, bindP, bindPs, wipeP, List.getElem?_cons_zero, List.getElem?_cons_succ, List.set_cons_zero, List.set_cons_succ, List.length_cons, List.length_nil, pbin_add, pbin_sub, pbi_int, pbi_lenT, pbi_tupT, isTup_tup, isTup_str, isTup_int, isTup_bl, isTup_non, isBl_bl, isBl_int, isBl_str, isInt_int, isInt_str, isStr_str, pcmp_lt, pcmp_le, pcmp_gt, pcmp_ge, pcmp_eqI, pcmp_neI, pcmp_eqS, pcmp_neS, pcmp_eqB, pcmp_isN, pcmp_isT, pcmp_isS, pcmp_isI, pcmp_isB, pcmp_isnotN, pcmp_isnotT, pcmp_isnotS, seq_tup, pidx_tup, atP_0, atP_1, atP_2, atP_3, SZ_le, SZ_lt, true_implies, false_implies, Bool.true_eq_false, Bool.false_eq_true, and_true, true_and, decide_eq_true_eq, decide_eq_false_iff_not, Bool.not_eq_true', Bool.not_eq_false', Nat.reduceLeDiff, Nat.reduceAdd, Nat.zero_le, Bool.not_true, Bool.not_false]
    exact ⟨5, rfl, by decide, .inl rfl, _, _, _, _, _, _, _, rfl, hl0, k0⟩
  · rintro pre t post e σ h2 ⟨a3, a4, a5, a6, a7, a8, a9, rfl, hF, k2⟩
    refine ⟨_, rfl, ?_⟩
    show wS P _ _ [some (.tup (D.map encD)), some (.ref w), some (.ref l), some (.int (t : Int)), a4, a5, a6, a7, a8, a9] h2 _ _
    have o0 := FOk.iter D wo pre.length
    generalize hf : fiter D wo pre.length = F at hF o0
    refine wS_cons (wS_for D encD (fun _ => True) (fun pre2 σ h => ∃ (a4 a5 a6 a7 a8 a9 : Option PV), σ = [some (.tup (D.map encD)), some (.ref w), some (.ref l), some (.int (t : Int)), a4, a5, a6, a7, a8, a9] ∧
      h[l]? = some (.lst ((pre2.foldl (fstep wo) F).map .str)) ∧ Hx h0 h) ?_ (fun _ _ _ _ => trivial) ?_ ?_)
    · refine wI_itrT ?_
      simp only [wE_var, wE_non, wE_bl, wE_int, wE_str, wE_tup, wE_lst, wE_bin, wE_cmp, wE_and, wE_or, wE_not, wE_ite, wE_idx, wE_call, wE_bi, wE_mt, wL_nil, wL_cons, wR_some, wV_some, wB_some, wG_some, wX_some, wT_bl, wT_int, wT_non, wT_tup, bindP, bindPs, wipeP, List.getElem?_cons_zero, List.getElem?_cons_succ, List.set_cons_zero, List.set_cons_succ, List.length_cons, List.length_nil, pbin_add, pbin_sub, pbi_int, pbi_lenT, pbi_tupT, isTup_tup, isTup_str, isTup_int, isTup_bl, isTup_non, isBl_bl, isBl_int, isBl_str, isInt_int, isInt_str, isStr_str, pcmp_lt, pcmp_le, pcmp_gt, pcmp_ge, pcmp_eqI, pcmp_neI, pcmp_eqS, pcmp_neS, pcmp_eqB, pcmp_isN, pcmp_isT, pcmp_isS, pcmp_isI, pcmp_isB, pcmp_isnotN, pcmp_isnotT, pcmp_isnotS, seq_tup, pidx_tup, atP_0, atP_1, atP_2, atP_3, SZ_le, SZ_lt, true_implies, false_implies, Bool.true_eq_false, Bool.false_eq_true, and_true, true_and, decide_eq_true_eq, decide_eq_false_iff_not, Bool.not_eq_true', Bool.not_eq_false', Nat.reduceLeDiff, Nat.reduceAdd, Nat.zero_le, Bool.not_true, Bool.not_false]
      exact ⟨_, rfl, .inl rfl, _, _, _, _, _, _, rfl, hF, k2⟩
    · rintro pre2 d post2 e2 σ h3 ⟨a4, a5, a6, a7, a8, a9, rfl, hF2, k3⟩
      have hd : d ∈ D := by rw [e2]; simp
      have o2 := FOk.fold pre2 F (fun x hx => by rw [e2]; simp [hx]) o0
      generalize hf2 : pre2.foldl (fstep wo) F = F2 at hF2 o2
      refine ⟨_, rfl, ?_⟩
      show wS P _ _ [some (.tup (D.map encD)), some (.ref w), some (.ref l), some (.int (t : Int)), some (.str d.1), some (.tup (d.2.map encM)), a6, a7, a8, a9] h3 _ _
      refine wS_cons (wS_asg rfl ?_)
      refine own_ok ⟨by have := (s.len d hd).2; omega, fun m hm => by have := (s.prt d hd m hm).1; omega⟩ hF2 fun h4 o xs ho hxs k4 => ?_
      have e1 := pnotin_strs (y := .ref l) (h := h4) (s := d.1) (ks := F2) (k4.seq (seq_at hF2))
      have e3 := pnotin_strs (y := .ref w) (h := h4) (s := d.1) (ks := wo) ((k3.trans k4).seq (seq_at hw))
      have e4 := pbi_len (h := h4) (seq_at ho)
      simp only [wE_var, wE_non, wE_bl, wE_int, wE_str, wE_tup, wE_lst, wE_bin, wE_cmp, wE_and, wE_or, wE_not, wE_ite, wE_idx, wE_call, wE_bi, wE_mt, wL_nil, wL_cons, wR_some, wV_some, wB_some, wG_some, wX_some, wT_bl, wT_int, wT_non, wT_tup, bindP, bindPs, wipeP, List.getElem?_cons_zero, List.getElem?_cons_succ, List.set_cons_zero, List.set_cons_succ, List.length_cons, List.length_nil, pbin_add, pbin_sub, pbi_int, pbi_lenT, pbi_tupT, isTup_tup, isTup_str, isTup_int, isTup_bl, isTup_non, isBl_bl, isBl_int, isBl_str, isInt_int, isInt_str, isStr_str, pcmp_lt, pcmp_le, pcmp_gt, pcmp_ge, pcmp_eqI, pcmp_neI, pcmp_eqS, pcmp_neS, pcmp_eqB, pcmp_isN, pcmp_isT, pcmp_isS, pcmp_isI, pcmp_isB, pcmp_isnotN, pcmp_isnotT, pcmp_isnotS, seq_tup, pidx_tup, atP_0, atP_1, atP_2, atP_3, SZ_le, SZ_lt, true_implies, false_implies, Bool.true_eq_false, Bool.false_eq_true, and_true, true_and, decide_eq_true_eq, decide_eq_false_iff_not, Bool.not_eq_true', Bool.not_eq_false', Nat.reduceLeDiff, Nat.reduceAdd, Nat.zero_le, Bool.not_true, Bool.not_false]
      refine wS_cons (wS_mono (N := fun σ h => σ = [some (.tup (D.map encD)), some (.ref w), some (.ref l), some (.int (t : Int)), some (.str d.1), some (.tup (d.2.map encM)), some (.ref o), a7, a8, a9] ∧ h[l]? = some (.lst ((fstep wo F2 d).map .str)) ∧ Hx h0 h) (R := fun _ _ => False) (wS_cond ?_) ?_ (fun _ _ z => z.elim))
      · have hin : d.2.any (okM F2) = true ↔ 0 < (xs.length : Int) := by
          rw [hxs]
          constructor
          · intro z
            obtain ⟨m, hm, hk⟩ := List.any_eq_true.mp z
            have : m ∈ d.2.filter (okM F2) := List.mem_filter.mpr ⟨hm, hk⟩
            have := List.length_pos_of_mem this
            omega
          · intro z
            have : 0 < (d.2.filter (okM F2)).length := by omega
            obtain ⟨m, hm⟩ := List.exists_mem_of_length_pos this
            obtain ⟨a, b⟩ := List.mem_filter.mp hm
            exact List.any_eq_true.mpr ⟨m, a, b⟩
        have hc : wE P (callF P n) (.and (.cmp .notin (.var 4) (.var 2)) (.and (.cmp .notin (.var 4) (.var 1)) (.cmp .gt (.bi .len (.cons (.var 6) .nil)) (.int (0))))) [some (.tup (D.map encD)), some (.ref w), some (.ref l), some (.int (t : Int)), some (.str d.1), some (.tup (d.2.map encM)), some (.ref o), a7, a8, a9] h4 (fun x h1 => x = .bl (decide (d.1 ∉ F2 ∧ d.1 ∉ wo ∧ d.2.any (okM F2) = true)) ∧ h1 = h4) := by
          simp only [wE_var, wE_non, wE_bl, wE_int, wE_str, wE_tup, wE_lst, wE_bin, wE_cmp, wE_and, wE_or, wE_not, wE_ite, wE_idx, wE_call, wE_bi, wE_mt, wL_nil, wL_cons, wR_some, wV_some, wB_some, wG_some, wX_some, wT_bl, wT_int, wT_non, wT_tup, bindP, bindPs, wipeP, List.getElem?_cons_zero, List.getElem?_cons_succ, List.set_cons_zero, List.set_cons_succ, List.length_cons, List.length_nil, pbin_add, pbin_sub, pbi_int, pbi_lenT, pbi_tupT, isTup_tup, isTup_str, isTup_int, isTup_bl, isTup_non, isBl_bl, isBl_int, isBl_str, isInt_int, isInt_str, isStr_str, pcmp_lt, pcmp_le, pcmp_gt, pcmp_ge, pcmp_eqI, pcmp_neI, pcmp_eqS, pcmp_neS, pcmp_eqB, pcmp_isN, pcmp_isT, pcmp_isS, pcmp_isI, pcmp_isB, pcmp_isnotN, pcmp_isnotT, pcmp_isnotS, seq_tup, pidx_tup, atP_0, atP_1, atP_2, atP_3, SZ_le, SZ_lt, true_implies, false_implies, Bool.true_eq_false, Bool.false_eq_true, and_true, true_and, decide_eq_true_eq, decide_eq_false_iff_not, Bool.not_eq_true', Bool.not_eq_false', Nat.reduceLeDiff, Nat.reduceAdd, Nat.zero_le, Bool.not_true, Bool.not_false, e1, e3, e4, hin]
          by_cases c1 : d.1 ∈ F2 <;> by_cases c2 : d.1 ∈ wo <;> simp [c1, c2]
        refine wE_mono hc ?_
        rintro x h1 ⟨rfl, rfl⟩
        simp only [wE_var, wE_non, wE_bl, wE_int, wE_str, wE_tup, wE_lst, wE_bin, wE_cmp, wE_and, wE_or, wE_not, wE_ite, wE_idx, wE_call, wE_bi, wE_mt, wL_nil, wL_cons, wR_some, wV_some, wB_some, wG_some, wX_some, wT_bl, wT_int, wT_non, wT_tup, bindP, bindPs, wipeP, List.getElem?_cons_zero, List.getElem?_cons_succ, List.set_cons_zero, List.set_cons_succ, List.length_cons, List.length_nil, pbin_add, pbin_sub, pbi_int, pbi_lenT, pbi_tupT, isTup_tup, isTup_str, isTup_int, isTup_bl, isTup_non, isBl_bl, isBl_int, isBl_str, isInt_int, isInt_str, isStr_str, pcmp_lt, pcmp_le, pcmp_gt, pcmp_ge, pcmp_eqI, pcmp_neI, pcmp_eqS, pcmp_neS, pcmp_eqB, pcmp_isN, pcmp_isT, pcmp_isS, pcmp_isI, pcmp_isB, pcmp_isnotN, pcmp_isnotT, pcmp_isnotS, seq_tup, pidx_tup, atP_0, atP_1, atP_2, atP_3, SZ_le, SZ_lt, true_implies, false_implies, Bool.true_eq_false, Bool.false_eq_true, and_true, true_and, decide_eq_true_eq, decide_eq_false_iff_not, Bool.not_eq_true', Bool.not_eq_false', Nat.reduceLeDiff, Nat.reduceAdd, Nat.zero_le, Bool.not_true, Bool.not_false]
        refine ⟨fun c => ?_, fun c => wS_nil ⟨rfl, by rw [show fstep wo F2 d = F2 from if_neg c]; exact k4 _ _ hF2, k3.trans k4⟩⟩
        have hF4 := k4 _ _ hF2
        have hlen : F2.length < 100 := by have := o2.len; have := s.hi; omega
        refine wS_cons (wS_expr ?_)
        simp only [wE_var, wE_non, wE_bl, wE_int, wE_str, wE_tup, wE_lst, wE_bin, wE_cmp, wE_and, wE_or, wE_not, wE_ite, wE_idx, wE_call, wE_bi, wE_mt, wL_nil, wL_cons, wR_some, wV_some, wB_some, wG_some, wX_some, wT_bl, wT_int, wT_non, wT_tup, bindP, bindPs, wipeP, List.getElem?_cons_zero, List.getElem?_cons_succ, List.set_cons_zero, List.set_cons_succ, List.length_cons, List.length_nil, pbin_add, pbin_sub, pbi_int, pbi_lenT, pbi_tupT, isTup_tup, isTup_str, isTup_int, isTup_bl, isTup_non, isBl_bl, isBl_int, isBl_str, isInt_int, isInt_str, isStr_str, pcmp_lt, pcmp_le, pcmp_gt, pcmp_ge, pcmp_eqI, pcmp_neI, pcmp_eqS, pcmp_neS, pcmp_eqB, pcmp_isN, pcmp_isT, pcmp_isS, pcmp_isI, pcmp_isB, pcmp_isnotN, pcmp_isnotT, pcmp_isnotS, seq_tup, pidx_tup, atP_0, atP_1, atP_2, atP_3, SZ_le, SZ_lt, true_implies, false_implies, Bool.true_eq_false, Bool.false_eq_true, and_true, true_and, decide_eq_true_eq, decide_eq_false_iff_not, Bool.not_eq_true', Bool.not_eq_false', Nat.reduceLeDiff, Nat.reduceAdd, Nat.zero_le, Bool.not_true, Bool.not_false, okT_app hF4, pmt_app hF4 (v := .str d.1) (by simp [SZ]; omega)]
        refine wS_nil ⟨rfl, ?_, (k3.trans k4).set (by omega)⟩
        rw [show fstep wo F2 d = F2 ++ [d.1] from if_pos c]
        simp [(List.getElem?_eq_some_iff.mp hF4).1]
      · rintro σ h5 ⟨rfl, hF5, k5⟩
        refine wS_nil ⟨_, _, _, _, _, _, rfl, ?_, k5⟩
        rw [List.foldl_append, hf2]; exact hF5
    · rintro σ h3 ⟨a4, a5, a6, a7, a8, a9, rfl, hF2, k3⟩
      refine wS_nil ⟨_, _, _, _, _, _, _, rfl, ?_, k3⟩
      rw [List.length_append, List.length_singleton]
      show h3[l]? = some (.lst ((fpass D wo (fiter D wo pre.length)).map .str))
      rw [hf]; exact hF2
  · rintro σ h2 ⟨a3, a4, a5, a6, a7, a8, a9, rfl, hF, k2⟩
    refine wS_cons (wS_ret ?_)
    simp only [wE_var, wE_non, wE_bl, wE_int, wE_str, wE_tup, wE_lst, wE_bin, wE_cmp, wE_and, wE_or, wE_not, wE_ite, wE_idx, wE_call, wE_bi, wE_mt, wL_nil, wL_cons, wR_some, wV_some, wB_some, wG_some, wX_some, wT_bl, wT_int, wT_non, wT_tup, bindP, bindPs, wipeP, List.getElem?_cons_zero, List.getElem?_cons_succ, List.set_cons_zero, List.set_cons_succ, List.length_cons, List.length_nil, pbin_add, pbin_sub, pbi_int, pbi_lenT, pbi_tupT, isTup_tup, isTup_str, isTup_int, isTup_bl, isTup_non, isBl_bl, isBl_int, isBl_str, isInt_int, isInt_str, isStr_str, pcmp_lt, pcmp_le, pcmp_gt, pcmp_ge, pcmp_eqI, pcmp_neI, pcmp_eqS, pcmp_neS, pcmp_eqB, pcmp_isN, pcmp_isT, pcmp_isS, pcmp_isI, pcmp_isB, pcmp_isnotN, pcmp_isnotT, pcmp_isnotS, seq_tup, pidx_tup, atP_0, atP_1, atP_2, atP_3, SZ_le, SZ_lt, true_implies, false_implies, Bool.true_eq_false, Bool.false_eq_true, and_true, true_and, decide_eq_true_eq, decide_eq_false_iff_not, Bool.not_eq_true', Bool.not_eq_false', Nat.reduceLeDiff, Nat.reduceAdd, Nat.zero_le, Bool.not_true, Bool.not_false]
    exact ⟨l, rfl, hF, k2⟩
end Mi.K6
set_option Elab.async false
set_option linter.all false
set_option maxRecDepth 100000
set_option maxHeartbeats 4000000
namespace Mi.K6
open Mi
theorem cut_take {α : Type} {xs : List α} {k : Nat} : cutP xs none (some (k : Int)) = xs.take k := by
  unfold cutP
  rw [HT.sIx_none, HT.sIx_nat]
  rw [List.drop_zero, Nat.sub_zero]
  by_cases h : k ≤ xs.length
  · rw [Nat.min_eq_left h]
  · rw [Nat.min_eq_right (by omega), List.take_of_length_le (by omega), List.take_of_length_le (by omega)]
theorem zip_split {α : Type} {ks : List α} {pre post : List (α × Nat)} {x : α × Nat} (e : ks.zipIdx = pre ++ x :: post) : x.2 = pre.length ∧ ks = pre.map (·.1) ++ x.1 :: post.map (·.1) := by
  have h : (ks.zipIdx)[pre.length]? = some x := by rw [e]; simp
  rw [List.getElem?_zipIdx] at h
  obtain ⟨a, h1, h2⟩ := Option.map_eq_some_iff.mp h
  refine ⟨by rw [← h2]; simp, ?_⟩
  have : ks = (ks.zipIdx).map (·.1) := by simp
  rw [this, e]; simp
theorem twice_ok {ks : List Sg} {l n : Nat} {h0 : AH} (hl : h0[l]? = some (.lst (ks.map .str))) (nd : ks.Nodup) : wC (callF P (n + 1)) 6 [.ref l] h0 (fun v h' => v = .non ∧ Hx h0 h') := by
  refine wC_of (d := ⟨1, 3, b6⟩) rfl rfl ?_
  show wS P _ b6 [some (.ref l), none, none] h0 _ _
  refine wS_cons (wS_for ks.zipIdx (fun p => PV.tup [.int (p.2 : Nat), .str p.1]) (fun h => Hx h0 h) (fun pre σ h => ∃ (a1 a2 : Option PV), σ = [some (.ref l), a1, a2] ∧ Hx h0 h) ?_ (fun _ _ _ ⟨_, _, _, k⟩ => k) ?_ ?_)
  · refine wI_enumL ?_
    simp only [wE_var, wE_non, wE_bl, wE_int, wE_str, wE_tup, wE_lst, wE_bin, wE_cmp, wE_and, wE_or, wE_not, wE_ite, wE_idx, wE_call, wE_bi, wE_mt, wL_nil, wL_cons, wR_some, wV_some, wB_some, wG_some, wX_some, wT_bl, wT_int, wT_non, wT_tup, bindP, bindPs, wipeP, List.getElem?_cons_zero, List.getElem?_cons_succ, List.set_cons_zero, List.set_cons_succ, List.length_cons, List.length_nil, pbin_add, pbin_sub, pbi_int, pbi_lenT, pbi_tupT, isTup_tup, isTup_str, isTup_int, isTup_bl, isTup_non, isBl_bl, isBl_int, isBl_str, isInt_int, isInt_str, isStr_str, pcmp_lt, pcmp_le, pcmp_gt, pcmp_ge, pcmp_eqI, pcmp_neI, pcmp_eqS, pcmp_neS, pcmp_eqB, pcmp_isN, pcmp_isT, pcmp_isS, pcmp_isI, pcmp_isB, pcmp_isnotN, pcmp_isnotT, pcmp_isnotS, seq_tup, pidx_tup, atP_0, atP_1, atP_2, atP_3, SZ_le, SZ_lt, true_implies, false_implies, Bool.true_eq_false, Bool.false_eq_true, and_true, true_and, decide_eq_true_eq, decide_eq_false_iff_not, Bool.not_eq_true', Bool.not_eq_false', Nat.reduceLeDiff, Nat.reduceAdd, Nat.zero_le, Bool.not_true, Bool.not_false]
    refine ⟨l, _, rfl, seq_at hl, .inr (.inr ⟨l, _, rfl, ?_, fun h k => k.seq (seq_at hl)⟩), _, _, rfl, Hx.refl⟩
    rw [List.zipIdx_map, List.map_map]; rfl
  · rintro pre ⟨x, i⟩ post e σ h ⟨a1, a2, rfl, k⟩
    obtain ⟨hi, hks⟩ := zip_split e
    dsimp only at hi hks
    subst hi
    refine ⟨_, rfl, ?_⟩
    show wS P _ _ [some (.ref l), some (.int (pre.length : Int)), some (.str x)] h _ _
    refine wS_cons (wS_cond ?_)
    have p1 := psl_lst (lo := none) (hi := some (pre.length : Int)) (k _ _ hl)
    rw [cut_take] at p1
    simp only [wE_var, wE_non, wE_bl, wE_int, wE_str, wE_tup, wE_lst, wE_bin, wE_cmp, wE_and, wE_or, wE_not, wE_ite, wE_idx, wE_call, wE_bi, wE_mt, wL_nil, wL_cons, wR_some, wV_some, wB_some, wG_some, wX_some, wT_bl, wT_int, wT_non, wT_tup, bindP, bindPs, wipeP, List.getElem?_cons_zero, List.getElem?_cons_succ, List.set_cons_zero, List.set_cons_succ, List.length_cons, List.length_nil, pbin_add, pbin_sub, pbi_int, pbi_lenT, pbi_tupT, isTup_tup, isTup_str, isTup_int, isTup_bl, isTup_non, isBl_bl, isBl_int, isBl_str, isInt_int, isInt_str, isStr_str, pcmp_lt, pcmp_le, pcmp_gt, pcmp_ge, pcmp_eqI, pcmp_neI, pcmp_eqS, pcmp_neS, pcmp_eqB, pcmp_isN, pcmp_isT, pcmp_isS, pcmp_isI, pcmp_isB, pcmp_isnotN, pcmp_isnotT, pcmp_isnotS, seq_tup, pidx_tup, atP_0, atP_1, atP_2, atP_3, SZ_le, SZ_lt, true_implies, false_implies, Bool.true_eq_false, Bool.false_eq_true, and_true, true_and, decide_eq_true_eq, decide_eq_false_iff_not, Bool.not_eq_true', Bool.not_eq_false', Nat.reduceLeDiff, Nat.reduceAdd, Nat.zero_le, Bool.not_true, Bool.not_false, wE_sl]
    refine ⟨none, some (pre.length : Int), rfl, rfl, ?_⟩
    simp only [wE_var, wE_non, wE_bl, wE_int, wE_str, wE_tup, wE_lst, wE_bin, wE_cmp, wE_and, wE_or, wE_not, wE_ite, wE_idx, wE_call, wE_bi, wE_mt, wL_nil, wL_cons, wR_some, wV_some, wB_some, wG_some, wX_some, wT_bl, wT_int, wT_non, wT_tup, bindP, bindPs, wipeP, List.getElem?_cons_zero, List.getElem?_cons_succ, List.set_cons_zero, List.set_cons_succ, List.length_cons, List.length_nil, pbin_add, pbin_sub, pbi_int, pbi_lenT, pbi_tupT, isTup_tup, isTup_str, isTup_int, isTup_bl, isTup_non, isBl_bl, isBl_int, isBl_str, isInt_int, isInt_str, isStr_str, pcmp_lt, pcmp_le, pcmp_gt, pcmp_ge, pcmp_eqI, pcmp_neI, pcmp_eqS, pcmp_neS, pcmp_eqB, pcmp_isN, pcmp_isT, pcmp_isS, pcmp_isI, pcmp_isB, pcmp_isnotN, pcmp_isnotT, pcmp_isnotS, seq_tup, pidx_tup, atP_0, atP_1, atP_2, atP_3, SZ_le, SZ_lt, true_implies, false_implies, Bool.true_eq_false, Bool.false_eq_true, and_true, true_and, decide_eq_true_eq, decide_eq_false_iff_not, Bool.not_eq_true', Bool.not_eq_false', Nat.reduceLeDiff, Nat.reduceAdd, Nat.zero_le, Bool.not_true, Bool.not_false, p1]
    have e2 : seqOf (.ref h.length) (h ++ [AO.lst ((ks.map PV.str).take pre.length)]) = some ((pre.map (·.1)).map PV.str) := by
      rw [seq_new, ← List.map_take]
      congr 2
      rw [hks, List.take_append_of_le_length (by simp)]
      exact List.take_of_length_le (by simp)
    have hn : x ∉ pre.map (·.1) := fun z => by
      rw [hks, List.nodup_append] at nd
      exact nd.2.2 x z x List.mem_cons_self rfl
    have e3 := pin_strs (s := x) e2
    simp only [wE_var, wE_non, wE_bl, wE_int, wE_str, wE_tup, wE_lst, wE_bin, wE_cmp, wE_and, wE_or, wE_not, wE_ite, wE_idx, wE_call, wE_bi, wE_mt, wL_nil, wL_cons, wR_some, wV_some, wB_some, wG_some, wX_some, wT_bl, wT_int, wT_non, wT_tup, bindP, bindPs, wipeP, List.getElem?_cons_zero, List.getElem?_cons_succ, List.set_cons_zero, List.set_cons_succ, List.length_cons, List.length_nil, pbin_add, pbin_sub, pbi_int, pbi_lenT, pbi_tupT, isTup_tup, isTup_str, isTup_int, isTup_bl, isTup_non, isBl_bl, isBl_int, isBl_str, isInt_int, isInt_str, isStr_str, pcmp_lt, pcmp_le, pcmp_gt, pcmp_ge, pcmp_eqI, pcmp_neI, pcmp_eqS, pcmp_neS, pcmp_eqB, pcmp_isN, pcmp_isT, pcmp_isS, pcmp_isI, pcmp_isB, pcmp_isnotN, pcmp_isnotT, pcmp_isnotS, seq_tup, pidx_tup, atP_0, atP_1, atP_2, atP_3, SZ_le, SZ_lt, true_implies, false_implies, Bool.true_eq_false, Bool.false_eq_true, and_true, true_and, decide_eq_true_eq, decide_eq_false_iff_not, Bool.not_eq_true', Bool.not_eq_false', Nat.reduceLeDiff, Nat.reduceAdd, Nat.zero_le, Bool.not_true, Bool.not_false, e3]
    exact ⟨fun z => absurd z hn, fun _ => wS_nil (wS_nil ⟨_, _, rfl, k.app⟩)⟩
  · rintro σ h ⟨a1, a2, rfl, k⟩
    refine wS_cons (wS_ret ?_)
    simp only [wE_var, wE_non, wE_bl, wE_int, wE_str, wE_tup, wE_lst, wE_bin, wE_cmp, wE_and, wE_or, wE_not, wE_ite, wE_idx, wE_call, wE_bi, wE_mt, wL_nil, wL_cons, wR_some, wV_some, wB_some, wG_some, wX_some, wT_bl, wT_int, wT_non, wT_tup, bindP, bindPs, wipeP, List.getElem?_cons_zero, List.getElem?_cons_succ, List.set_cons_zero, List.set_cons_succ, List.length_cons, List.length_nil, pbin_add, pbin_sub, pbi_int, pbi_lenT, pbi_tupT, isTup_tup, isTup_str, isTup_int, isTup_bl, isTup_non, isBl_bl, isBl_int, isBl_str, isInt_int, isInt_str, isStr_str, pcmp_lt, pcmp_le, pcmp_gt, pcmp_ge, pcmp_eqI, pcmp_neI, pcmp_eqS, pcmp_neS, pcmp_eqB, pcmp_isN, pcmp_isT, pcmp_isS, pcmp_isI, pcmp_isB, pcmp_isnotN, pcmp_isnotT, pcmp_isnotS, seq_tup, pidx_tup, atP_0, atP_1, atP_2, atP_3, SZ_le, SZ_lt, true_implies, false_implies, Bool.true_eq_false, Bool.false_eq_true, and_true, true_and, decide_eq_true_eq, decide_eq_false_iff_not, Bool.not_eq_true', Bool.not_eq_false', Nat.reduceLeDiff, Nat.reduceAdd, Nat.zero_le, Bool.not_true, Bool.not_false]
    exact k
def allMk (D : List Dt) : List Sg := D.flatMap fun d => d.2.map (·.1)
theorem mn_inj {j k j' k' : Nat} (h : mn j k = mn j' k') : j = j' ∧ k = k' := by
  unfold mn at h; simp at h; exact h
theorem Shape.mks {D : List Dt} (s : Shape D) : (allMk D).Nodup := by
  rw [List.nodup_iff_pairwise_ne]
  unfold allMk
  rw [List.pairwise_flatMap]
  constructor
  · intro d hd
    obtain ⟨k, hk, e⟩ := List.mem_iff_getElem.mp hd
    rw [List.pairwise_map, List.pairwise_iff_getElem]
    intro i j hi hj hij z
    rw [s.mkn k d i _ (by rw [← e]; exact List.getElem?_eq_getElem hk) (List.getElem?_eq_getElem hi), s.mkn k d j _ (by rw [← e]; exact List.getElem?_eq_getElem hk) (List.getElem?_eq_getElem hj)] at z
    have := (mn_inj z).1
    omega
  · rw [List.pairwise_iff_getElem]
    intro k k' hk hk' hkk x hx y hy z
    obtain ⟨m, hm, rfl⟩ := List.mem_map.mp hx
    obtain ⟨m', hm', rfl⟩ := List.mem_map.mp hy
    obtain ⟨i, hi, e⟩ := List.mem_iff_getElem.mp hm
    obtain ⟨i', hi', e'⟩ := List.mem_iff_getElem.mp hm'
    rw [s.mkn k _ i m (List.getElem?_eq_getElem hk) (by rw [← e]; exact List.getElem?_eq_getElem hi), s.mkn k' _ i' m' (List.getElem?_eq_getElem hk') (by rw [← e']; exact List.getElem?_eq_getElem hi')] at z
    have := (mn_inj z).2
    omega
def noval : Sg := [110, 111, 32, 118, 97, 108, 117, 101, 115]
def fault (D : List Dt) : PV := match (D.map (·.1)).find? (fun k => !hv D 5 k []) with
  | none => .non
  | some k => .tup [.str noval, .str k]
theorem Shape.lens {D : List Dt} (s : Shape D) : (allMk D).length ≤ 12 := by
  have : ∀ L : List Dt, (∀ d ∈ L, d.2.length ≤ 3) → (allMk L).length ≤ 3 * L.length := by
    intro L
    induction L with
    | nil => intro _; simp [allMk]
    | cons d L ih =>
      intro h
      have h1 := h d List.mem_cons_self
      have h2 := ih fun x hx => h x (List.mem_cons_of_mem _ hx)
      unfold allMk at h2 ⊢
      rw [List.flatMap_cons, List.length_append, List.length_map, List.length_cons]
      omega
  have h1 := this D fun d hd => (s.len d hd).2
  have := s.hi
  omega
theorem lst_ok {D : List Dt} {cl : Cl} {σ : Env1} {h : AH} {Q : PV → AH → Prop} (s : Shape D) (h0 : σ[0]? = some (some (prog D))) (h1 : 1 < σ.length) (hQ : ∀ h', Hx h h' → Q (.ref h'.length) (h' ++ [.lst ((D.map (·.1)).map .str)])) :
    wE P cl (.lc [1] (.var 1) (.itr (.idx (.var 0) (.int (1)))) (.bl true) (.idx (.var 1) (.int (0)))) σ h Q := by
  have hD := s.hi
  refine lc_pure (L := D) (enc := encD) (fun _ => true) (fun d => .str d.1) ?_ ?_ (by simp [SZ]; omega) fun h' k => ?_
  · refine wI_itrT ?_
    simp only [wE_var, wE_non, wE_bl, wE_int, wE_str, wE_tup, wE_lst, wE_bin, wE_cmp, wE_and, wE_or, wE_not, wE_ite, wE_idx, wE_call, wE_bi, wE_mt, wL_nil, wL_cons, wR_some, wV_some, wB_some, wG_some, wX_some, wT_bl, wT_int, wT_non, wT_tup, bindP, bindPs, wipeP, List.getElem?_cons_zero, List.getElem?_cons_succ, List.set_cons_zero, List.set_cons_succ, List.length_cons, List.length_nil, pbin_add, pbin_sub, pbi_int, pbi_lenT, pbi_tupT, isTup_tup, isTup_str, isTup_int, isTup_bl, isTup_non, isBl_bl, isBl_int, isBl_str, isInt_int, isInt_str, isStr_str, pcmp_lt, pcmp_le, pcmp_gt, pcmp_ge, pcmp_eqI, pcmp_neI, pcmp_eqS, pcmp_neS, pcmp_eqB, pcmp_isN, pcmp_isT, pcmp_isS, pcmp_isI, pcmp_isB, pcmp_isnotN, pcmp_isnotT, pcmp_isnotS, seq_tup, pidx_tup, atP_0, atP_1, atP_2, atP_3, SZ_le, SZ_lt, true_implies, false_implies, Bool.true_eq_false, Bool.false_eq_true, and_true, true_and, decide_eq_true_eq, decide_eq_false_iff_not, Bool.not_eq_true', Bool.not_eq_false', Nat.reduceLeDiff, Nat.reduceAdd, Nat.zero_le, Bool.not_true, Bool.not_false, h0, prog]
    exact ⟨_, rfl, rfl, Hx.refl⟩
  · intro d hd h' k
    refine ⟨_, rfl, ?_⟩
    have e1 : (((σ.set 1 none).set 1 (some (encD d)))[1]?) = some (some (encD d)) := by
      rw [List.getElem?_set_self (by simpa using h1)]
    simp only [wE_var, wE_non, wE_bl, wE_int, wE_str, wE_tup, wE_lst, wE_bin, wE_cmp, wE_and, wE_or, wE_not, wE_ite, wE_idx, wE_call, wE_bi, wE_mt, wL_nil, wL_cons, wR_some, wV_some, wB_some, wG_some, wX_some, wT_bl, wT_int, wT_non, wT_tup, bindP, bindPs, wipeP, List.getElem?_cons_zero, List.getElem?_cons_succ, List.set_cons_zero, List.set_cons_succ, List.length_cons, List.length_nil, pbin_add, pbin_sub, pbi_int, pbi_lenT, pbi_tupT, isTup_tup, isTup_str, isTup_int, isTup_bl, isTup_non, isBl_bl, isBl_int, isBl_str, isInt_int, isInt_str, isStr_str, pcmp_lt, pcmp_le, pcmp_gt, pcmp_ge, pcmp_eqI, pcmp_neI, pcmp_eqS, pcmp_neS, pcmp_eqB, pcmp_isN, pcmp_isT, pcmp_isS, pcmp_isI, pcmp_isB, pcmp_isnotN, pcmp_isnotT, pcmp_isnotS, seq_tup, pidx_tup, atP_0, atP_1, atP_2, atP_3, SZ_le, SZ_lt, true_implies, false_implies, Bool.true_eq_false, Bool.false_eq_true, and_true, true_and, decide_eq_true_eq, decide_eq_false_iff_not, Bool.not_eq_true', Bool.not_eq_false', Nat.reduceLeDiff, Nat.reduceAdd, Nat.zero_le, Bool.not_true, Bool.not_false, e1]
    have e2 : pidx (encD d) (.int 0) h' = some (.str d.1) := atP_0
    simp only [wE_var, wE_non, wE_bl, wE_int, wE_str, wE_tup, wE_lst, wE_bin, wE_cmp, wE_and, wE_or, wE_not, wE_ite, wE_idx, wE_call, wE_bi, wE_mt, wL_nil, wL_cons, wR_some, wV_some, wB_some, wG_some, wX_some, wT_bl, wT_int, wT_non, wT_tup, bindP, bindPs, wipeP, List.getElem?_cons_zero, List.getElem?_cons_succ, List.set_cons_zero, List.set_cons_succ, List.length_cons, List.length_nil, pbin_add, pbin_sub, pbi_int, pbi_lenT, pbi_tupT, isTup_tup, isTup_str, isTup_int, isTup_bl, isTup_non, isBl_bl, isBl_int, isBl_str, isInt_int, isInt_str, isStr_str, pcmp_lt, pcmp_le, pcmp_gt, pcmp_ge, pcmp_eqI, pcmp_neI, pcmp_eqS, pcmp_neS, pcmp_eqB, pcmp_isN, pcmp_isT, pcmp_isS, pcmp_isI, pcmp_isB, pcmp_isnotN, pcmp_isnotT, pcmp_isnotS, seq_tup, pidx_tup, atP_0, atP_1, atP_2, atP_3, SZ_le, SZ_lt, true_implies, false_implies, Bool.true_eq_false, Bool.false_eq_true, and_true, true_and, decide_eq_true_eq, decide_eq_false_iff_not, Bool.not_eq_true', Bool.not_eq_false', Nat.reduceLeDiff, Nat.reduceAdd, Nat.zero_le, Bool.not_true, Bool.not_false, e2]
    exact ⟨Hx.refl, Hx.refl⟩
  · have := hQ h' k
    have e : (D.filter fun _ => true).map (fun d : Dt => PV.str d.1) = (D.map (·.1)).map PV.str := by
      rw [List.filter_eq_self.mpr (fun _ _ => rfl), List.map_map]; rfl
    rw [e]
    exact this
end Mi.K6
set_option Elab.async false
set_option linter.all false
set_option maxRecDepth 100000
set_option maxHeartbeats 4000000
namespace Mi.K6
open Mi
theorem find_split {α : Type} {f : α → Bool} : ∀ {pre : List α} {x : α} {post : List α}, (∀ y ∈ pre, f y = false) → (pre ++ x :: post).find? f = if f x then some x else post.find? f
  | [], x, post, _ => by rw [List.nil_append, List.find?_cons]; cases f x <;> rfl
  | a :: pre, x, post, h => by
    rw [List.cons_append, List.find?_cons, h a List.mem_cons_self]
    exact find_split fun y hy => h y (List.mem_cons_of_mem _ hy)
set_option maxHeartbeats 8000000 in
theorem top_ok {D : List Dt} {n : Nat} {h0 : AH} (s : Shape D) : wC (callF P (n + 8)) 7 [prog D] h0 (fun v h' => v = fault D ∧ Hx h0 h') := by
  refine wC_of (d := ⟨1, 12, b7⟩) rfl rfl ?_
  show wS P _ b7 [some (prog D), none, none, none, none, none, none, none, none, none, none, none] h0 _ _
  have hD := s.hi
  -- data twice
  refine wS_cons (wS_asg rfl ?_)
  simp only [wE_var, wE_non, wE_bl, wE_int, wE_str, wE_tup, wE_lst, wE_bin, wE_cmp, wE_and, wE_or, wE_not, wE_ite, wE_idx, wE_call, wE_bi, wE_mt, wL_nil, wL_cons, wR_some, wV_some, wB_some, wG_some, wX_some, wT_bl, wT_int, wT_non, wT_tup, bindP, bindPs, wipeP, List.getElem?_cons_zero, List.getElem?_cons_succ, List.set_cons_zero, List.set_cons_succ, List.length_cons, List.length_nil, pbin_add, pbin_sub, pbi_int, pbi_lenT, pbi_tupT, isTup_tup, isTup_str, isTup_int, isTup_bl, isTup_non, isBl_bl, isBl_int, isBl_str, isInt_int, isInt_str, isStr_str, pcmp_lt, pcmp_le, pcmp_gt, pcmp_ge, pcmp_eqI, pcmp_neI, pcmp_eqS, pcmp_neS, pcmp_eqB, pcmp_isN, pcmp_isT, pcmp_isS, pcmp_isI, pcmp_isB, pcmp_isnotN, pcmp_isnotT, pcmp_isnotS, seq_tup, pidx_tup, atP_0, atP_1, atP_2, atP_3, SZ_le, SZ_lt, true_implies, false_implies, Bool.true_eq_false, Bool.false_eq_true, and_true, true_and, decide_eq_true_eq, decide_eq_false_iff_not, Bool.not_eq_true', Bool.not_eq_false', Nat.reduceLeDiff, Nat.reduceAdd, Nat.zero_le, Bool.not_true, Bool.not_false]
  refine lst_ok s rfl (by simp) fun h1 k1 => ?_
  have k1' : Hx h0 (h1 ++ [AO.lst ((D.map (·.1)).map PV.str)]) := k1.app
  have hl1 : (h1 ++ [AO.lst ((D.map (·.1)).map PV.str)])[h1.length]? = some (.lst ((D.map (·.1)).map PV.str)) := by simp
  refine wC_mono (twice_ok hl1 s.nodup) fun v h2 ⟨hv, k2⟩ => ?_
  subst hv
  have k2 := k1'.trans k2
  refine wS_cons (wS_cond ?_)
  simp only [wE_var, wE_non, wE_bl, wE_int, wE_str, wE_tup, wE_lst, wE_bin, wE_cmp, wE_and, wE_or, wE_not, wE_ite, wE_idx, wE_call, wE_bi, wE_mt, wL_nil, wL_cons, wR_some, wV_some, wB_some, wG_some, wX_some, wT_bl, wT_int, wT_non, wT_tup, bindP, bindPs, wipeP, List.getElem?_cons_zero, List.getElem?_cons_succ, List.set_cons_zero, List.set_cons_succ, List.length_cons, List.length_nil, pbin_add, pbin_sub, pbi_int, pbi_lenT, pbi_tupT, isTup_tup, isTup_str, isTup_int, isTup_bl, isTup_non, isBl_bl, isBl_int, isBl_str, isInt_int, isInt_str, isStr_str, pcmp_lt, pcmp_le, pcmp_gt, pcmp_ge, pcmp_eqI, pcmp_neI, pcmp_eqS, pcmp_neS, pcmp_eqB, pcmp_isN, pcmp_isT, pcmp_isS, pcmp_isI, pcmp_isB, pcmp_isnotN, pcmp_isnotT, pcmp_isnotS, seq_tup, pidx_tup, atP_0, atP_1, atP_2, atP_3, SZ_le, SZ_lt, true_implies, false_implies, Bool.true_eq_false, Bool.false_eq_true, and_true, true_and, decide_eq_true_eq, decide_eq_false_iff_not, Bool.not_eq_true', Bool.not_eq_false', Nat.reduceLeDiff, Nat.reduceAdd, Nat.zero_le, Bool.not_true, Bool.not_false]
  refine wS_nil (wS_cons (wS_asg rfl ?_))
  -- maker twice
  simp only [wE_var, wE_non, wE_bl, wE_int, wE_str, wE_tup, wE_lst, wE_bin, wE_cmp, wE_and, wE_or, wE_not, wE_ite, wE_idx, wE_call, wE_bi, wE_mt, wL_nil, wL_cons, wR_some, wV_some, wB_some, wG_some, wX_some, wT_bl, wT_int, wT_non, wT_tup, bindP, bindPs, wipeP, List.getElem?_cons_zero, List.getElem?_cons_succ, List.set_cons_zero, List.set_cons_succ, List.length_cons, List.length_nil, pbin_add, pbin_sub, pbi_int, pbi_lenT, pbi_tupT, isTup_tup, isTup_str, isTup_int, isTup_bl, isTup_non, isBl_bl, isBl_int, isBl_str, isInt_int, isInt_str, isStr_str, pcmp_lt, pcmp_le, pcmp_gt, pcmp_ge, pcmp_eqI, pcmp_neI, pcmp_eqS, pcmp_neS, pcmp_eqB, pcmp_isN, pcmp_isT, pcmp_isS, pcmp_isI, pcmp_isB, pcmp_isnotN, pcmp_isnotT, pcmp_isnotS, seq_tup, pidx_tup, atP_0, atP_1, atP_2, atP_3, SZ_le, SZ_lt, true_implies, false_implies, Bool.true_eq_false, Bool.false_eq_true, and_true, true_and, decide_eq_true_eq, decide_eq_false_iff_not, Bool.not_eq_true', Bool.not_eq_false', Nat.reduceLeDiff, Nat.reduceAdd, Nat.zero_le, Bool.not_true, Bool.not_false]
  refine lc2_pure (L := D) (enc := encD) (en2 := encM) (fun d => d.2) (fun _ _ => true) (fun _ m => .str m.1) ?_ ?_ ?_ fun h3 k3 => ?_
  · refine wI_itrT ?_
    simp only [wE_var, wE_non, wE_bl, wE_int, wE_str, wE_tup, wE_lst, wE_bin, wE_cmp, wE_and, wE_or, wE_not, wE_ite, wE_idx, wE_call, wE_bi, wE_mt, wL_nil, wL_cons, wR_some, wV_some, wB_some, wG_some, wX_some, wT_bl, wT_int, wT_non, wT_tup, bindP, bindPs, wipeP, List.getElem?_cons_zero, List.getElem?_cons_succ, List.set_cons_zero, List.set_cons_succ, List.length_cons, List.length_nil, pbin_add, pbin_sub, pbi_int, pbi_lenT, pbi_tupT, isTup_tup, isTup_str, isTup_int, isTup_bl, isTup_non, isBl_bl, isBl_int, isBl_str, isInt_int, isInt_str, isStr_str, pcmp_lt, pcmp_le, pcmp_gt, pcmp_ge, pcmp_eqI, pcmp_neI, pcmp_eqS, pcmp_neS, pcmp_eqB, pcmp_isN, pcmp_isT, pcmp_isS, pcmp_isI, pcmp_isB, pcmp_isnotN, pcmp_isnotT, pcmp_isnotS, seq_tup, pidx_tup, atP_0, atP_1, atP_2, atP_3, SZ_le, SZ_lt, true_implies, false_implies, Bool.true_eq_false, Bool.false_eq_true, and_true, true_and, decide_eq_true_eq, decide_eq_false_iff_not, Bool.not_eq_true', Bool.not_eq_false', Nat.reduceLeDiff, Nat.reduceAdd, Nat.zero_le, Bool.not_true, Bool.not_false, prog]
    exact ⟨_, rfl, rfl, Hx.refl⟩
  · intro d hd h' k
    refine ⟨_, rfl, ?_⟩
    refine ⟨_, h', ?_, rfl, Hx.refl, fun m hm h2 k2 => ⟨_, rfl, ?_⟩⟩
    · rfl
    · simp only [wE_var, wE_non, wE_bl, wE_int, wE_str, wE_tup, wE_lst, wE_bin, wE_cmp, wE_and, wE_or, wE_not, wE_ite, wE_idx, wE_call, wE_bi, wE_mt, wL_nil, wL_cons, wR_some, wV_some, wB_some, wG_some, wX_some, wT_bl, wT_int, wT_non, wT_tup, bindP, bindPs, wipeP, List.getElem?_cons_zero, List.getElem?_cons_succ, List.set_cons_zero, List.set_cons_succ, List.length_cons, List.length_nil, pbin_add, pbin_sub, pbi_int, pbi_lenT, pbi_tupT, isTup_tup, isTup_str, isTup_int, isTup_bl, isTup_non, isBl_bl, isBl_int, isBl_str, isInt_int, isInt_str, isStr_str, pcmp_lt, pcmp_le, pcmp_gt, pcmp_ge, pcmp_eqI, pcmp_neI, pcmp_eqS, pcmp_neS, pcmp_eqB, pcmp_isN, pcmp_isT, pcmp_isS, pcmp_isI, pcmp_isB, pcmp_isnotN, pcmp_isnotT, pcmp_isnotS, seq_tup, pidx_tup, atP_0, atP_1, atP_2, atP_3, SZ_le, SZ_lt, true_implies, false_implies, Bool.true_eq_false, Bool.false_eq_true, and_true, true_and, decide_eq_true_eq, decide_eq_false_iff_not, Bool.not_eq_true', Bool.not_eq_false', Nat.reduceLeDiff, Nat.reduceAdd, Nat.zero_le, Bool.not_true, Bool.not_false, tgVars, List.cons_append, List.nil_append]
      exact ⟨Hx.refl, Hx.refl⟩
  · have := s.lens
    unfold allMk at this
    rw [List.length_flatMap] at this ⊢
    simp [SZ] at this ⊢; omega
  have e3 : (D.flatMap fun x => (x.2.filter fun _ => true).map fun m : Mk => PV.str m.1) = (allMk D).map PV.str := by
    unfold allMk
    rw [List.map_flatMap]
    congr 1
    funext d
    rw [List.filter_eq_self.mpr (fun _ _ => rfl), List.map_map]; rfl
  rw [e3]
  have hl3 : (h3 ++ [AO.lst ((allMk D).map PV.str)])[h3.length]? = some (.lst ((allMk D).map PV.str)) := by simp
  refine wC_mono (twice_ok hl3 s.mks) fun v h4 ⟨hv, k4⟩ => ?_
  subst hv
  have k4 := (k2.trans k3).app.trans k4
  refine wS_cons (wS_cond ?_)
  simp only [wE_var, wE_non, wE_bl, wE_int, wE_str, wE_tup, wE_lst, wE_bin, wE_cmp, wE_and, wE_or, wE_not, wE_ite, wE_idx, wE_call, wE_bi, wE_mt, wL_nil, wL_cons, wR_some, wV_some, wB_some, wG_some, wX_some, wT_bl, wT_int, wT_non, wT_tup, bindP, bindPs, wipeP, List.getElem?_cons_zero, List.getElem?_cons_succ, List.set_cons_zero, List.set_cons_succ, List.length_cons, List.length_nil, pbin_add, pbin_sub, pbi_int, pbi_lenT, pbi_tupT, isTup_tup, isTup_str, isTup_int, isTup_bl, isTup_non, isBl_bl, isBl_int, isBl_str, isInt_int, isInt_str, isStr_str, pcmp_lt, pcmp_le, pcmp_gt, pcmp_ge, pcmp_eqI, pcmp_neI, pcmp_eqS, pcmp_neS, pcmp_eqB, pcmp_isN, pcmp_isT, pcmp_isS, pcmp_isI, pcmp_isB, pcmp_isnotN, pcmp_isnotT, pcmp_isnotS, seq_tup, pidx_tup, atP_0, atP_1, atP_2, atP_3, SZ_le, SZ_lt, true_implies, false_implies, Bool.true_eq_false, Bool.false_eq_true, and_true, true_and, decide_eq_true_eq, decide_eq_false_iff_not, Bool.not_eq_true', Bool.not_eq_false', Nat.reduceLeDiff, Nat.reduceAdd, Nat.zero_le, Bool.not_true, Bool.not_false]
  refine wS_nil (wS_cons (wS_asg rfl ?_))
  -- kinds
  simp only [wE_var, wE_non, wE_bl, wE_int, wE_str, wE_tup, wE_lst, wE_bin, wE_cmp, wE_and, wE_or, wE_not, wE_ite, wE_idx, wE_call, wE_bi, wE_mt, wL_nil, wL_cons, wR_some, wV_some, wB_some, wG_some, wX_some, wT_bl, wT_int, wT_non, wT_tup, bindP, bindPs, wipeP, List.getElem?_cons_zero, List.getElem?_cons_succ, List.set_cons_zero, List.set_cons_succ, List.length_cons, List.length_nil, pbin_add, pbin_sub, pbi_int, pbi_lenT, pbi_tupT, isTup_tup, isTup_str, isTup_int, isTup_bl, isTup_non, isBl_bl, isBl_int, isBl_str, isInt_int, isInt_str, isStr_str, pcmp_lt, pcmp_le, pcmp_gt, pcmp_ge, pcmp_eqI, pcmp_neI, pcmp_eqS, pcmp_neS, pcmp_eqB, pcmp_isN, pcmp_isT, pcmp_isS, pcmp_isI, pcmp_isB, pcmp_isnotN, pcmp_isnotT, pcmp_isnotS, seq_tup, pidx_tup, atP_0, atP_1, atP_2, atP_3, SZ_le, SZ_lt, true_implies, false_implies, Bool.true_eq_false, Bool.false_eq_true, and_true, true_and, decide_eq_true_eq, decide_eq_false_iff_not, Bool.not_eq_true', Bool.not_eq_false', Nat.reduceLeDiff, Nat.reduceAdd, Nat.zero_le, Bool.not_true, Bool.not_false]
  refine lst_ok s rfl (by simp) fun h5 k5 => ?_
  have a1 : (h5 ++ [AO.lst ((D.map (·.1)).map PV.str)])[h4.length]? = some (.lst [PV.str [110, 117, 109], .str [116, 114, 117, 116, 104]]) := (k5.app) _ _ (by simp)
  have a2 : (h5 ++ [AO.lst ((D.map (·.1)).map PV.str)])[h5.length]? = some (.lst ((D.map (·.1)).map PV.str)) := by simp
  have a3 := pbin_addL a1 a2 (by simp [SZ]; omega)
  simp only [wE_var, wE_non, wE_bl, wE_int, wE_str, wE_tup, wE_lst, wE_bin, wE_cmp, wE_and, wE_or, wE_not, wE_ite, wE_idx, wE_call, wE_bi, wE_mt, wL_nil, wL_cons, wR_some, wV_some, wB_some, wG_some, wX_some, wT_bl, wT_int, wT_non, wT_tup, bindP, bindPs, wipeP, List.getElem?_cons_zero, List.getElem?_cons_succ, List.set_cons_zero, List.set_cons_succ, List.length_cons, List.length_nil, pbin_add, pbin_sub, pbi_int, pbi_lenT, pbi_tupT, isTup_tup, isTup_str, isTup_int, isTup_bl, isTup_non, isBl_bl, isBl_int, isBl_str, isInt_int, isInt_str, isStr_str, pcmp_lt, pcmp_le, pcmp_gt, pcmp_ge, pcmp_eqI, pcmp_neI, pcmp_eqS, pcmp_neS, pcmp_eqB, pcmp_isN, pcmp_isT, pcmp_isS, pcmp_isI, pcmp_isB, pcmp_isnotN, pcmp_isnotT, pcmp_isnotS, seq_tup, pidx_tup, atP_0, atP_1, atP_2, atP_3, SZ_le, SZ_lt, true_implies, false_implies, Bool.true_eq_false, Bool.false_eq_true, and_true, true_and, decide_eq_true_eq, decide_eq_false_iff_not, Bool.not_eq_true', Bool.not_eq_false', Nat.reduceLeDiff, Nat.reduceAdd, Nat.zero_le, Bool.not_true, Bool.not_false, a3]
  have k6 : Hx h0 (h5 ++ [AO.lst ((D.map (·.1)).map PV.str)] ++ [AO.lst ([PV.str [110, 117, 109], .str [116, 114, 117, 116, 104]] ++ (D.map (·.1)).map PV.str)]) := ((k4.app.trans k5).app).app
  have hk6 : (h5 ++ [AO.lst ((D.map (·.1)).map PV.str)] ++ [AO.lst ([PV.str [110, 117, 109], .str [116, 114, 117, 116, 104]] ++ (D.map (·.1)).map PV.str)])[(h5 ++ [AO.lst ((D.map (·.1)).map PV.str)]).length]? = some (.lst ((uni D).map PV.str)) := by simp [uni, num, tru]
  generalize (h5 ++ [AO.lst ((D.map (·.1)).map PV.str)]).length = lk at hk6 ⊢
  generalize h5 ++ [AO.lst ((D.map (·.1)).map PV.str)] ++ [AO.lst ([PV.str [110, 117, 109], .str [116, 114, 117, 116, 104]] ++ (D.map (·.1)).map PV.str)] = h6 at k6 hk6 ⊢
  clear a1 a2 a3 k5 k4 hl3 k3 k2 hl1 k1' k1
  -- no such kind
  refine wS_cons (wS_for D encD (fun _ => True) (fun pre σ h => ∃ (a3 a5 a6 a7 : Option PV), σ = [some (prog D), none, some .non, a3, some (.ref lk), a5, a6, a7, none, none, none, none] ∧ Hx h6 h) ?_ (fun _ _ _ _ => trivial) ?_ ?_)
  · refine wI_itrT ?_
    simp only [wE_var, wE_non, wE_bl, wE_int, wE_str, wE_tup, wE_lst, wE_bin, wE_cmp, wE_and, wE_or, wE_not, wE_ite, wE_idx, wE_call, wE_bi, wE_mt, wL_nil, wL_cons, wR_some, wV_some, wB_some, wG_some, wX_some, wT_bl, wT_int, wT_non, wT_tup, bindP, bindPs, wipeP, List.getElem?_cons_zero, List.getElem?_cons_succ, List.set_cons_zero, List.set_cons_succ, List.length_cons, List.length_nil, pbin_add, pbin_sub, pbi_int, pbi_lenT, pbi_tupT, isTup_tup, isTup_str, isTup_int, isTup_bl, isTup_non, isBl_bl, isBl_int, isBl_str, isInt_int, isInt_str, isStr_str, pcmp_lt, pcmp_le, pcmp_gt, pcmp_ge, pcmp_eqI, pcmp_neI, pcmp_eqS, pcmp_neS, pcmp_eqB, pcmp_isN, pcmp_isT, pcmp_isS, pcmp_isI, pcmp_isB, pcmp_isnotN, pcmp_isnotT, pcmp_isnotS, seq_tup, pidx_tup, atP_0, atP_1, atP_2, atP_3, SZ_le, SZ_lt, true_implies, false_implies, Bool.true_eq_false, Bool.false_eq_true, and_true, true_and, decide_eq_true_eq, decide_eq_false_iff_not, Bool.not_eq_true', Bool.not_eq_false', Nat.reduceLeDiff, Nat.reduceAdd, Nat.zero_le, Bool.not_true, Bool.not_false, prog]
    exact ⟨_, rfl, .inl rfl, _, _, _, _, rfl, Hx.refl⟩
  · rintro pre d post e σ h ⟨a3, a5, a6, a7, rfl, k⟩
    have hd : d ∈ D := by rw [e]; simp
    refine ⟨_, rfl, ?_⟩
    show wS P _ _ [some (prog D), none, some .non, a3, some (.ref lk), some (encD d), a6, a7, none, none, none, none] h _ _
    refine wS_cons (wS_for d.2 encM (fun _ => True) (fun pre σ h => ∃ (a3 a6 a7 : Option PV), σ = [some (prog D), none, some .non, a3, some (.ref lk), some (encD d), a6, a7, none, none, none, none] ∧ Hx h6 h) ?_ (fun _ _ _ _ => trivial) ?_ ?_)
    · refine wI_itrT ?_
      have e2 : pidx (encD d) (.int 1) h = some (.tup (d.2.map encM)) := atP_1
      simp only [wE_var, wE_non, wE_bl, wE_int, wE_str, wE_tup, wE_lst, wE_bin, wE_cmp, wE_and, wE_or, wE_not, wE_ite, wE_idx, wE_call, wE_bi, wE_mt, wL_nil, wL_cons, wR_some, wV_some, wB_some, wG_some, wX_some, wT_bl, wT_int, wT_non, wT_tup, bindP, bindPs, wipeP, List.getElem?_cons_zero, List.getElem?_cons_succ, List.set_cons_zero, List.set_cons_succ, List.length_cons, List.length_nil, pbin_add, pbin_sub, pbi_int, pbi_lenT, pbi_tupT, isTup_tup, isTup_str, isTup_int, isTup_bl, isTup_non, isBl_bl, isBl_int, isBl_str, isInt_int, isInt_str, isStr_str, pcmp_lt, pcmp_le, pcmp_gt, pcmp_ge, pcmp_eqI, pcmp_neI, pcmp_eqS, pcmp_neS, pcmp_eqB, pcmp_isN, pcmp_isT, pcmp_isS, pcmp_isI, pcmp_isB, pcmp_isnotN, pcmp_isnotT, pcmp_isnotS, seq_tup, pidx_tup, atP_0, atP_1, atP_2, atP_3, SZ_le, SZ_lt, true_implies, false_implies, Bool.true_eq_false, Bool.false_eq_true, and_true, true_and, decide_eq_true_eq, decide_eq_false_iff_not, Bool.not_eq_true', Bool.not_eq_false', Nat.reduceLeDiff, Nat.reduceAdd, Nat.zero_le, Bool.not_true, Bool.not_false, e2]
      exact ⟨_, rfl, .inl rfl, _, _, _, rfl, k⟩
    · rintro pre2 m post2 e2 σ h ⟨a3, a6, a7, rfl, k⟩
      have hm : m ∈ d.2 := by rw [e2]; simp
      refine ⟨_, rfl, ?_⟩
      show wS P _ _ [some (prog D), none, some .non, some (.str m.1), some (.ref lk), some (encD d), some (.tup (m.2.map .str)), a7, none, none, none, none] h _ _
      refine wS_cons (wS_for m.2 PV.str (fun _ => True) (fun pre σ h => ∃ (a7 : Option PV), σ = [some (prog D), none, some .non, some (.str m.1), some (.ref lk), some (encD d), some (.tup (m.2.map .str)), a7, none, none, none, none] ∧ Hx h6 h) ?_ (fun _ _ _ _ => trivial) ?_ ?_)
      · refine wI_itrT ?_
        simp only [wE_var, wE_non, wE_bl, wE_int, wE_str, wE_tup, wE_lst, wE_bin, wE_cmp, wE_and, wE_or, wE_not, wE_ite, wE_idx, wE_call, wE_bi, wE_mt, wL_nil, wL_cons, wR_some, wV_some, wB_some, wG_some, wX_some, wT_bl, wT_int, wT_non, wT_tup, bindP, bindPs, wipeP, List.getElem?_cons_zero, List.getElem?_cons_succ, List.set_cons_zero, List.set_cons_succ, List.length_cons, List.length_nil, pbin_add, pbin_sub, pbi_int, pbi_lenT, pbi_tupT, isTup_tup, isTup_str, isTup_int, isTup_bl, isTup_non, isBl_bl, isBl_int, isBl_str, isInt_int, isInt_str, isStr_str, pcmp_lt, pcmp_le, pcmp_gt, pcmp_ge, pcmp_eqI, pcmp_neI, pcmp_eqS, pcmp_neS, pcmp_eqB, pcmp_isN, pcmp_isT, pcmp_isS, pcmp_isI, pcmp_isB, pcmp_isnotN, pcmp_isnotT, pcmp_isnotS, seq_tup, pidx_tup, atP_0, atP_1, atP_2, atP_3, SZ_le, SZ_lt, true_implies, false_implies, Bool.true_eq_false, Bool.false_eq_true, and_true, true_and, decide_eq_true_eq, decide_eq_false_iff_not, Bool.not_eq_true', Bool.not_eq_false', Nat.reduceLeDiff, Nat.reduceAdd, Nat.zero_le, Bool.not_true, Bool.not_false]
        exact ⟨_, rfl, .inl rfl, _, rfl, k⟩
      · rintro pre3 p post3 e3 σ h ⟨a7, rfl, k⟩
        have hp : p ∈ m.2 := by rw [e3]; simp
        refine ⟨_, rfl, ?_⟩
        show wS P _ _ [some (prog D), none, some .non, some (.str m.1), some (.ref lk), some (encD d), some (.tup (m.2.map .str)), some (.str p), none, none, none, none] h _ _
        refine wS_cons (wS_cond ?_)
        have hu : p ∈ uni D := by
          unfold uni
          rcases (s.prt d hd m hm).2 p hp with z | z | z
          · subst z; simp
          · subst z; simp
          · exact List.mem_cons_of_mem _ (List.mem_cons_of_mem _ z)
        have e4 := pnotin_strs (s := p) (k.seq (seq_at hk6))
        simp only [wE_var, wE_non, wE_bl, wE_int, wE_str, wE_tup, wE_lst, wE_bin, wE_cmp, wE_and, wE_or, wE_not, wE_ite, wE_idx, wE_call, wE_bi, wE_mt, wL_nil, wL_cons, wR_some, wV_some, wB_some, wG_some, wX_some, wT_bl, wT_int, wT_non, wT_tup, bindP, bindPs, wipeP, List.getElem?_cons_zero, List.getElem?_cons_succ, List.set_cons_zero, List.set_cons_succ, List.length_cons, List.length_nil, pbin_add, pbin_sub, pbi_int, pbi_lenT, pbi_tupT, isTup_tup, isTup_str, isTup_int, isTup_bl, isTup_non, isBl_bl, isBl_int, isBl_str, isInt_int, isInt_str, isStr_str, pcmp_lt, pcmp_le, pcmp_gt, pcmp_ge, pcmp_eqI, pcmp_neI, pcmp_eqS, pcmp_neS, pcmp_eqB, pcmp_isN, pcmp_isT, pcmp_isS, pcmp_isI, pcmp_isB, pcmp_isnotN, pcmp_isnotT, pcmp_isnotS, seq_tup, pidx_tup, atP_0, atP_1, atP_2, atP_3, SZ_le, SZ_lt, true_implies, false_implies, Bool.true_eq_false, Bool.false_eq_true, and_true, true_and, decide_eq_true_eq, decide_eq_false_iff_not, Bool.not_eq_true', Bool.not_eq_false', Nat.reduceLeDiff, Nat.reduceAdd, Nat.zero_le, Bool.not_true, Bool.not_false, e4, hu, decide_true]
        exact wS_nil (wS_nil ⟨_, rfl, k⟩)
      · rintro σ h ⟨a7, rfl, k⟩
        exact wS_nil ⟨_, _, _, rfl, k⟩
    · rintro σ h ⟨a3, a6, a7, rfl, k⟩
      exact wS_nil ⟨_, _, _, _, rfl, k⟩
  · rintro σ h ⟨a3, a5, a6, a7, rfl, k⟩
    -- no values
    refine wS_cons (wS_for D encD (fun _ => True) (fun pre σ h => ∃ (a3 a8 : Option PV), σ = [some (prog D), none, some .non, a3, some (.ref lk), a5, a6, a7, a8, none, none, none] ∧ Hx h6 h ∧ ∀ y ∈ pre, (!hv D 5 y.1 []) = false) ?_ (fun _ _ _ _ => trivial) ?_ ?_)
    · refine wI_itrT ?_
      simp only [wE_var, wE_non, wE_bl, wE_int, wE_str, wE_tup, wE_lst, wE_bin, wE_cmp, wE_and, wE_or, wE_not, wE_ite, wE_idx, wE_call, wE_bi, wE_mt, wL_nil, wL_cons, wR_some, wV_some, wB_some, wG_some, wX_some, wT_bl, wT_int, wT_non, wT_tup, bindP, bindPs, wipeP, List.getElem?_cons_zero, List.getElem?_cons_succ, List.set_cons_zero, List.set_cons_succ, List.length_cons, List.length_nil, pbin_add, pbin_sub, pbi_int, pbi_lenT, pbi_tupT, isTup_tup, isTup_str, isTup_int, isTup_bl, isTup_non, isBl_bl, isBl_int, isBl_str, isInt_int, isInt_str, isStr_str, pcmp_lt, pcmp_le, pcmp_gt, pcmp_ge, pcmp_eqI, pcmp_neI, pcmp_eqS, pcmp_neS, pcmp_eqB, pcmp_isN, pcmp_isT, pcmp_isS, pcmp_isI, pcmp_isB, pcmp_isnotN, pcmp_isnotT, pcmp_isnotS, seq_tup, pidx_tup, atP_0, atP_1, atP_2, atP_3, SZ_le, SZ_lt, true_implies, false_implies, Bool.true_eq_false, Bool.false_eq_true, and_true, true_and, decide_eq_true_eq, decide_eq_false_iff_not, Bool.not_eq_true', Bool.not_eq_false', Nat.reduceLeDiff, Nat.reduceAdd, Nat.zero_le, Bool.not_true, Bool.not_false, prog]
      exact ⟨_, rfl, .inl rfl, _, _, rfl, k, fun y hy => absurd hy List.not_mem_nil⟩
    · rintro pre d post e σ h ⟨a3, a8, rfl, k, hpre⟩
      have hd : d ∈ D := by rw [e]; simp
      refine ⟨_, rfl, ?_⟩
      show wS P _ _ [some (prog D), none, some .non, some (.tup (d.2.map encM)), some (.ref lk), a5, a6, a7, some (.str d.1), none, none, none] h _ _
      refine wS_cons (wS_cond ?_)
      have c1 := hv_ok s 5 (n + 7) d.1 [] h (by omega) (by unfold uni; exact List.mem_cons_of_mem _ (List.mem_cons_of_mem _ (List.mem_map_of_mem hd))) (by
        have := List.length_filter_le (fun x => decide (x ∉ ([] : List Sg))) (D.map (·.1))
        rw [List.length_map] at this; omega) (by simp)
      simp only [wE_var, wE_non, wE_bl, wE_int, wE_str, wE_tup, wE_lst, wE_bin, wE_cmp, wE_and, wE_or, wE_not, wE_ite, wE_idx, wE_call, wE_bi, wE_mt, wL_nil, wL_cons, wR_some, wV_some, wB_some, wG_some, wX_some, wT_bl, wT_int, wT_non, wT_tup, bindP, bindPs, wipeP, List.getElem?_cons_zero, List.getElem?_cons_succ, List.set_cons_zero, List.set_cons_succ, List.length_cons, List.length_nil, pbin_add, pbin_sub, pbi_int, pbi_lenT, pbi_tupT, isTup_tup, isTup_str, isTup_int, isTup_bl, isTup_non, isBl_bl, isBl_int, isBl_str, isInt_int, isInt_str, isStr_str, pcmp_lt, pcmp_le, pcmp_gt, pcmp_ge, pcmp_eqI, pcmp_neI, pcmp_eqS, pcmp_neS, pcmp_eqB, pcmp_isN, pcmp_isT, pcmp_isS, pcmp_isI, pcmp_isB, pcmp_isnotN, pcmp_isnotT, pcmp_isnotS, seq_tup, pidx_tup, atP_0, atP_1, atP_2, atP_3, SZ_le, SZ_lt, true_implies, false_implies, Bool.true_eq_false, Bool.false_eq_true, and_true, true_and, decide_eq_true_eq, decide_eq_false_iff_not, Bool.not_eq_true', Bool.not_eq_false', Nat.reduceLeDiff, Nat.reduceAdd, Nat.zero_le, Bool.not_true, Bool.not_false]
      refine wC_mono c1 fun v h' ⟨hv', k'⟩ => ?_
      subst hv'
      simp only [wE_var, wE_non, wE_bl, wE_int, wE_str, wE_tup, wE_lst, wE_bin, wE_cmp, wE_and, wE_or, wE_not, wE_ite, wE_idx, wE_call, wE_bi, wE_mt, wL_nil, wL_cons, wR_some, wV_some, wB_some, wG_some, wX_some, wT_bl, wT_int, wT_non, wT_tup, bindP, bindPs, wipeP, List.getElem?_cons_zero, List.getElem?_cons_succ, List.set_cons_zero, List.set_cons_succ, List.length_cons, List.length_nil, pbin_add, pbin_sub, pbi_int, pbi_lenT, pbi_tupT, isTup_tup, isTup_str, isTup_int, isTup_bl, isTup_non, isBl_bl, isBl_int, isBl_str, isInt_int, isInt_str, isStr_str, pcmp_lt, pcmp_le, pcmp_gt, pcmp_ge, pcmp_eqI, pcmp_neI, pcmp_eqS, pcmp_neS, pcmp_eqB, pcmp_isN, pcmp_isT, pcmp_isS, pcmp_isI, pcmp_isB, pcmp_isnotN, pcmp_isnotT, pcmp_isnotS, seq_tup, pidx_tup, atP_0, atP_1, atP_2, atP_3, SZ_le, SZ_lt, true_implies, false_implies, Bool.true_eq_false, Bool.false_eq_true, and_true, true_and, decide_eq_true_eq, decide_eq_false_iff_not, Bool.not_eq_true', Bool.not_eq_false', Nat.reduceLeDiff, Nat.reduceAdd, Nat.zero_le, Bool.not_true, Bool.not_false]
      refine ⟨fun c => ?_, fun c => ?_⟩
      · refine wS_cons (wS_ret ?_)
        simp only [wE_var, wE_non, wE_bl, wE_int, wE_str, wE_tup, wE_lst, wE_bin, wE_cmp, wE_and, wE_or, wE_not, wE_ite, wE_idx, wE_call, wE_bi, wE_mt, wL_nil, wL_cons, wR_some, wV_some, wB_some, wG_some, wX_some, wT_bl, wT_int, wT_non, wT_tup, bindP, bindPs, wipeP, List.getElem?_cons_zero, List.getElem?_cons_succ, List.set_cons_zero, List.set_cons_succ, List.length_cons, List.length_nil, pbin_add, pbin_sub, pbi_int, pbi_lenT, pbi_tupT, isTup_tup, isTup_str, isTup_int, isTup_bl, isTup_non, isBl_bl, isBl_int, isBl_str, isInt_int, isInt_str, isStr_str, pcmp_lt, pcmp_le, pcmp_gt, pcmp_ge, pcmp_eqI, pcmp_neI, pcmp_eqS, pcmp_neS, pcmp_eqB, pcmp_isN, pcmp_isT, pcmp_isS, pcmp_isI, pcmp_isB, pcmp_isnotN, pcmp_isnotT, pcmp_isnotS, seq_tup, pidx_tup, atP_0, atP_1, atP_2, atP_3, SZ_le, SZ_lt, true_implies, false_implies, Bool.true_eq_false, Bool.false_eq_true, and_true, true_and, decide_eq_true_eq, decide_eq_false_iff_not, Bool.not_eq_true', Bool.not_eq_false', Nat.reduceLeDiff, Nat.reduceAdd, Nat.zero_le, Bool.not_true, Bool.not_false]
        refine ⟨?_, (k6.trans k).trans k'⟩
        unfold fault
        have : (D.map (·.1)).find? (fun k => !hv D 5 k []) = some d.1 := by
          have em : D.map (·.1) = pre.map (·.1) ++ d.1 :: post.map (·.1) := by
            have := congrArg (List.map (·.1)) e
            simpa using this
          rw [em, find_split (f := fun k => !hv D 5 k []) (fun y hy => by
            obtain ⟨x, hx, rfl⟩ := List.mem_map.mp hy
            exact hpre x hx), if_pos (by simp [c])]
        rw [this]; rfl
      · refine wS_nil (wS_nil ⟨_, _, rfl, k.trans k', fun y hy => ?_⟩)
        rcases List.mem_append.mp hy with z | z
        · simpa using hpre y z
        · rw [List.mem_singleton.mp z]; simp [c]
    · rintro σ h ⟨a3, a8, rfl, k, hpre⟩
      have hf : fault D = .non := by
        unfold fault
        have : (D.map (·.1)).find? (fun k => !hv D 5 k []) = none := by
          rw [List.find?_eq_none]
          intro x hx
          obtain ⟨y, hy, rfl⟩ := List.mem_map.mp hx
          rw [hpre y hy]; simp
        rw [this]
      -- functions
      refine wS_cons (wS_asg rfl ?_)
      simp only [wE_var, wE_non, wE_bl, wE_int, wE_str, wE_tup, wE_lst, wE_bin, wE_cmp, wE_and, wE_or, wE_not, wE_ite, wE_idx, wE_call, wE_bi, wE_mt, wL_nil, wL_cons, wR_some, wV_some, wB_some, wG_some, wX_some, wT_bl, wT_int, wT_non, wT_tup, bindP, bindPs, wipeP, List.getElem?_cons_zero, List.getElem?_cons_succ, List.set_cons_zero, List.set_cons_succ, List.length_cons, List.length_nil, pbin_add, pbin_sub, pbi_int, pbi_lenT, pbi_tupT, isTup_tup, isTup_str, isTup_int, isTup_bl, isTup_non, isBl_bl, isBl_int, isBl_str, isInt_int, isInt_str, isStr_str, pcmp_lt, pcmp_le, pcmp_gt, pcmp_ge, pcmp_eqI, pcmp_neI, pcmp_eqS, pcmp_neS, pcmp_eqB, pcmp_isN, pcmp_isT, pcmp_isS, pcmp_isI, pcmp_isB, pcmp_isnotN, pcmp_isnotT, pcmp_isnotS, seq_tup, pidx_tup, atP_0, atP_1, atP_2, atP_3, SZ_le, SZ_lt, true_implies, false_implies, Bool.true_eq_false, Bool.false_eq_true, and_true, true_and, decide_eq_true_eq, decide_eq_false_iff_not, Bool.not_eq_true', Bool.not_eq_false', Nat.reduceLeDiff, Nat.reduceAdd, Nat.zero_le, Bool.not_true, Bool.not_false]
      refine lc_pure (L := [PV.tup [.str [102], .tup [], .str num, .tup [.str num, .int 0]]]) (enc := id) (fun _ => true) (fun _ => .str [102]) ?_ ?_ (by simp [SZ]) fun h7 k7 => ?_
      · refine wI_itrT ?_
        simp only [wE_var, wE_non, wE_bl, wE_int, wE_str, wE_tup, wE_lst, wE_bin, wE_cmp, wE_and, wE_or, wE_not, wE_ite, wE_idx, wE_call, wE_bi, wE_mt, wL_nil, wL_cons, wR_some, wV_some, wB_some, wG_some, wX_some, wT_bl, wT_int, wT_non, wT_tup, bindP, bindPs, wipeP, List.getElem?_cons_zero, List.getElem?_cons_succ, List.set_cons_zero, List.set_cons_succ, List.length_cons, List.length_nil, pbin_add, pbin_sub, pbi_int, pbi_lenT, pbi_tupT, isTup_tup, isTup_str, isTup_int, isTup_bl, isTup_non, isBl_bl, isBl_int, isBl_str, isInt_int, isInt_str, isStr_str, pcmp_lt, pcmp_le, pcmp_gt, pcmp_ge, pcmp_eqI, pcmp_neI, pcmp_eqS, pcmp_neS, pcmp_eqB, pcmp_isN, pcmp_isT, pcmp_isS, pcmp_isI, pcmp_isB, pcmp_isnotN, pcmp_isnotT, pcmp_isnotS, seq_tup, pidx_tup, atP_0, atP_1, atP_2, atP_3, SZ_le, SZ_lt, true_implies, false_implies, Bool.true_eq_false, Bool.false_eq_true, and_true, true_and, decide_eq_true_eq, decide_eq_false_iff_not, Bool.not_eq_true', Bool.not_eq_false', Nat.reduceLeDiff, Nat.reduceAdd, Nat.zero_le, Bool.not_true, Bool.not_false, prog, fu]
        exact ⟨_, rfl, rfl, Hx.refl⟩
      · intro x hx h' k
        rw [List.mem_singleton] at hx
        subst hx
        refine ⟨_, rfl, ?_⟩
        simp only [wE_var, wE_non, wE_bl, wE_int, wE_str, wE_tup, wE_lst, wE_bin, wE_cmp, wE_and, wE_or, wE_not, wE_ite, wE_idx, wE_call, wE_bi, wE_mt, wL_nil, wL_cons, wR_some, wV_some, wB_some, wG_some, wX_some, wT_bl, wT_int, wT_non, wT_tup, bindP, bindPs, wipeP, List.getElem?_cons_zero, List.getElem?_cons_succ, List.set_cons_zero, List.set_cons_succ, List.length_cons, List.length_nil, pbin_add, pbin_sub, pbi_int, pbi_lenT, pbi_tupT, isTup_tup, isTup_str, isTup_int, isTup_bl, isTup_non, isBl_bl, isBl_int, isBl_str, isInt_int, isInt_str, isStr_str, pcmp_lt, pcmp_le, pcmp_gt, pcmp_ge, pcmp_eqI, pcmp_neI, pcmp_eqS, pcmp_neS, pcmp_eqB, pcmp_isN, pcmp_isT, pcmp_isS, pcmp_isI, pcmp_isB, pcmp_isnotN, pcmp_isnotT, pcmp_isnotS, seq_tup, pidx_tup, atP_0, atP_1, atP_2, atP_3, SZ_le, SZ_lt, true_implies, false_implies, Bool.true_eq_false, Bool.false_eq_true, and_true, true_and, decide_eq_true_eq, decide_eq_false_iff_not, Bool.not_eq_true', Bool.not_eq_false', Nat.reduceLeDiff, Nat.reduceAdd, Nat.zero_le, Bool.not_true, Bool.not_false, id]
        exact ⟨Hx.refl, Hx.refl⟩
      · have hl7 : (h7 ++ [AO.lst (([PV.tup [.str [102], .tup [], .str num, .tup [.str num, .int 0]]].filter fun _ => true).map fun _ => PV.str [102])])[h7.length]? = some (.lst (([[102]] : List Sg).map PV.str)) := by simp
        refine wC_mono (twice_ok hl7 (by decide)) fun v h8 ⟨hv, k8⟩ => ?_
        subst hv
        have k8 := (k.trans k7).app.trans k8
        refine wS_cons (wS_cond ?_)
        simp only [wE_var, wE_non, wE_bl, wE_int, wE_str, wE_tup, wE_lst, wE_bin, wE_cmp, wE_and, wE_or, wE_not, wE_ite, wE_idx, wE_call, wE_bi, wE_mt, wL_nil, wL_cons, wR_some, wV_some, wB_some, wG_some, wX_some, wT_bl, wT_int, wT_non, wT_tup, bindP, bindPs, wipeP, List.getElem?_cons_zero, List.getElem?_cons_succ, List.set_cons_zero, List.set_cons_succ, List.length_cons, List.length_nil, pbin_add, pbin_sub, pbi_int, pbi_lenT, pbi_tupT, isTup_tup, isTup_str, isTup_int, isTup_bl, isTup_non, isBl_bl, isBl_int, isBl_str, isInt_int, isInt_str, isStr_str, pcmp_lt, pcmp_le, pcmp_gt, pcmp_ge, pcmp_eqI, pcmp_neI, pcmp_eqS, pcmp_neS, pcmp_eqB, pcmp_isN, pcmp_isT, pcmp_isS, pcmp_isI, pcmp_isB, pcmp_isnotN, pcmp_isnotT, pcmp_isnotS, seq_tup, pidx_tup, atP_0, atP_1, atP_2, atP_3, SZ_le, SZ_lt, true_implies, false_implies, Bool.true_eq_false, Bool.false_eq_true, and_true, true_and, decide_eq_true_eq, decide_eq_false_iff_not, Bool.not_eq_true', Bool.not_eq_false', Nat.reduceLeDiff, Nat.reduceAdd, Nat.zero_le, Bool.not_true, Bool.not_false]
        refine wS_nil (wS_cons (wS_for [PV.tup [.str [102], .tup [], .str num, .tup [.str num, .int 0]]] id (fun _ => True) (fun pre σ h => ∃ (a1 a3 a7 a8 a9 : Option PV), σ = [some (prog D), a1, some .non, a3, some (.ref lk), a5, a6, a7, a8, a9, none, none] ∧ Hx h6 h) ?_ (fun _ _ _ _ => trivial) ?_ ?_))
        · refine wI_itrT ?_
          simp only [wE_var, wE_non, wE_bl, wE_int, wE_str, wE_tup, wE_lst, wE_bin, wE_cmp, wE_and, wE_or, wE_not, wE_ite, wE_idx, wE_call, wE_bi, wE_mt, wL_nil, wL_cons, wR_some, wV_some, wB_some, wG_some, wX_some, wT_bl, wT_int, wT_non, wT_tup, bindP, bindPs, wipeP, List.getElem?_cons_zero, List.getElem?_cons_succ, List.set_cons_zero, List.set_cons_succ, List.length_cons, List.length_nil, pbin_add, pbin_sub, pbi_int, pbi_lenT, pbi_tupT, isTup_tup, isTup_str, isTup_int, isTup_bl, isTup_non, isBl_bl, isBl_int, isBl_str, isInt_int, isInt_str, isStr_str, pcmp_lt, pcmp_le, pcmp_gt, pcmp_ge, pcmp_eqI, pcmp_neI, pcmp_eqS, pcmp_neS, pcmp_eqB, pcmp_isN, pcmp_isT, pcmp_isS, pcmp_isI, pcmp_isB, pcmp_isnotN, pcmp_isnotT, pcmp_isnotS, seq_tup, pidx_tup, atP_0, atP_1, atP_2, atP_3, SZ_le, SZ_lt, true_implies, false_implies, Bool.true_eq_false, Bool.false_eq_true, and_true, true_and, decide_eq_true_eq, decide_eq_false_iff_not, Bool.not_eq_true', Bool.not_eq_false', Nat.reduceLeDiff, Nat.reduceAdd, Nat.zero_le, Bool.not_true, Bool.not_false, prog, fu]
          exact ⟨_, rfl, .inl rfl, _, _, _, _, _, rfl, k8⟩
        · rintro pre x post e σ h ⟨a1, a3, a7, a8, a9, rfl, k⟩
          have hx : x ∈ [PV.tup [.str [102], .tup [], .str num, .tup [.str num, .int 0]]] := by rw [e]; simp
          rw [List.mem_singleton] at hx
          subst hx
          refine ⟨_, rfl, ?_⟩
          show wS P _ _ [some (prog D), a1, some .non, some (.tup [.str num, .int 0]), some (.ref lk), a5, a6, some (.str num), some (.str [102]), some (.tup []), none, none] h _ _
          refine wS_cons ?_
          have hI : wI P (callF P (n + 7)) (.itr (.bin .add (.lc [3, 11] (.tup (.cons (.var 3) (.cons (.var 11) .nil))) (.itr (.var 9)) (.bl true) (.var 11)) (.lst (.cons (.var 7) .nil)))) [some (prog D), a1, some .non, some (.tup [.str num, .int 0]), some (.ref lk), a5, a6, some (.str num), some (.str [102]), some (.tup []), none, none] h (fun i h' => ∃ l, i = .live false l ∧ h'[l]? = some (.lst [.str num]) ∧ Hx h h') := by
            refine wI_itrL ?_
            simp only [wE_var, wE_non, wE_bl, wE_int, wE_str, wE_tup, wE_lst, wE_bin, wE_cmp, wE_and, wE_or, wE_not, wE_ite, wE_idx, wE_call, wE_bi, wE_mt, wL_nil, wL_cons, wR_some, wV_some, wB_some, wG_some, wX_some, wT_bl, wT_int, wT_non, wT_tup, bindP, bindPs, wipeP, List.getElem?_cons_zero, List.getElem?_cons_succ, List.set_cons_zero, List.set_cons_succ, List.length_cons, List.length_nil, pbin_add, pbin_sub, pbi_int, pbi_lenT, pbi_tupT, isTup_tup, isTup_str, isTup_int, isTup_bl, isTup_non, isBl_bl, isBl_int, isBl_str, isInt_int, isInt_str, isStr_str, pcmp_lt, pcmp_le, pcmp_gt, pcmp_ge, pcmp_eqI, pcmp_neI, pcmp_eqS, pcmp_neS, pcmp_eqB, pcmp_isN, pcmp_isT, pcmp_isS, pcmp_isI, pcmp_isB, pcmp_isnotN, pcmp_isnotT, pcmp_isnotS, seq_tup, pidx_tup, atP_0, atP_1, atP_2, atP_3, SZ_le, SZ_lt, true_implies, false_implies, Bool.true_eq_false, Bool.false_eq_true, and_true, true_and, decide_eq_true_eq, decide_eq_false_iff_not, Bool.not_eq_true', Bool.not_eq_false', Nat.reduceLeDiff, Nat.reduceAdd, Nat.zero_le, Bool.not_true, Bool.not_false]
            refine lc_pure (L := ([] : List PV)) (enc := id) (fun _ => true) id ?_ (fun x hx => absurd hx List.not_mem_nil) (by simp [SZ]) fun h7 k7 => ?_
            · refine wI_itrT ?_
              simp only [wE_var, wE_non, wE_bl, wE_int, wE_str, wE_tup, wE_lst, wE_bin, wE_cmp, wE_and, wE_or, wE_not, wE_ite, wE_idx, wE_call, wE_bi, wE_mt, wL_nil, wL_cons, wR_some, wV_some, wB_some, wG_some, wX_some, wT_bl, wT_int, wT_non, wT_tup, bindP, bindPs, wipeP, List.getElem?_cons_zero, List.getElem?_cons_succ, List.set_cons_zero, List.set_cons_succ, List.length_cons, List.length_nil, pbin_add, pbin_sub, pbi_int, pbi_lenT, pbi_tupT, isTup_tup, isTup_str, isTup_int, isTup_bl, isTup_non, isBl_bl, isBl_int, isBl_str, isInt_int, isInt_str, isStr_str, pcmp_lt, pcmp_le, pcmp_gt, pcmp_ge, pcmp_eqI, pcmp_neI, pcmp_eqS, pcmp_neS, pcmp_eqB, pcmp_isN, pcmp_isT, pcmp_isS, pcmp_isI, pcmp_isB, pcmp_isnotN, pcmp_isnotT, pcmp_isnotS, seq_tup, pidx_tup, atP_0, atP_1, atP_2, atP_3, SZ_le, SZ_lt, true_implies, false_implies, Bool.true_eq_false, Bool.false_eq_true, and_true, true_and, decide_eq_true_eq, decide_eq_false_iff_not, Bool.not_eq_true', Bool.not_eq_false', Nat.reduceLeDiff, Nat.reduceAdd, Nat.zero_le, Bool.not_true, Bool.not_false]
              exact ⟨_, rfl, rfl, Hx.refl⟩
            · have a1 : (h7 ++ [AO.lst (([] : List PV).filter (fun _ => true) |>.map id)] ++ [AO.lst [PV.str num]])[h7.length]? = some (.lst []) := by simp
              have a2 : (h7 ++ [AO.lst (([] : List PV).filter (fun _ => true) |>.map id)] ++ [AO.lst [PV.str num]])[(h7 ++ [AO.lst (([] : List PV).filter (fun _ => true) |>.map id)]).length]? = some (.lst [PV.str num]) := by simp
              have a3 := pbin_addL a1 a2 (by simp [SZ])
              simp only [wE_var, wE_non, wE_bl, wE_int, wE_str, wE_tup, wE_lst, wE_bin, wE_cmp, wE_and, wE_or, wE_not, wE_ite, wE_idx, wE_call, wE_bi, wE_mt, wL_nil, wL_cons, wR_some, wV_some, wB_some, wG_some, wX_some, wT_bl, wT_int, wT_non, wT_tup, bindP, bindPs, wipeP, List.getElem?_cons_zero, List.getElem?_cons_succ, List.set_cons_zero, List.set_cons_succ, List.length_cons, List.length_nil, pbin_add, pbin_sub, pbi_int, pbi_lenT, pbi_tupT, isTup_tup, isTup_str, isTup_int, isTup_bl, isTup_non, isBl_bl, isBl_int, isBl_str, isInt_int, isInt_str, isStr_str, pcmp_lt, pcmp_le, pcmp_gt, pcmp_ge, pcmp_eqI, pcmp_neI, pcmp_eqS, pcmp_neS, pcmp_eqB, pcmp_isN, pcmp_isT, pcmp_isS, pcmp_isI, pcmp_isB, pcmp_isnotN, pcmp_isnotT, pcmp_isnotS, seq_tup, pidx_tup, atP_0, atP_1, atP_2, atP_3, SZ_le, SZ_lt, true_implies, false_implies, Bool.true_eq_false, Bool.false_eq_true, and_true, true_and, decide_eq_true_eq, decide_eq_false_iff_not, Bool.not_eq_true', Bool.not_eq_false', Nat.reduceLeDiff, Nat.reduceAdd, Nat.zero_le, Bool.not_true, Bool.not_false, a3]
              exact ⟨_, _, rfl, seq_new, _, rfl, by simp, k7.app.app.app⟩
          obtain ⟨i, h9, e9, l9, rfl, hl9, k9⟩ := hI
          refine wS_for [num] PV.str (fun h => Hx h9 h) (fun pre σ h => ∃ (a1 : Option PV), σ = [some (prog D), a1, some .non, some (.tup [.str num, .int 0]), some (.ref lk), a5, a6, some (.str num), some (.str [102]), some (.tup []), none, none] ∧ Hx h9 h) ⟨_, h9, e9, .inr (.inl ⟨l9, rfl, fun h k => k.seq (seq_at hl9)⟩), _, rfl, Hx.refl⟩ (fun _ _ _ ⟨_, _, k⟩ => k) ?_ ?_
          · rintro pre x post e σ h ⟨a1, rfl, k⟩
            have hx : x ∈ [num] := by rw [e]; simp
            rw [List.mem_singleton] at hx
            subst hx
            refine ⟨_, rfl, ?_⟩
            show wS P _ _ [some (prog D), some (.str num), some .non, some (.tup [.str num, .int 0]), some (.ref lk), a5, a6, some (.str num), some (.str [102]), some (.tup []), none, none] h _ _
            refine wS_cons (wS_cond ?_)
            have hu : num ∈ uni D := by unfold uni; simp
            have e4 := pnotin_strs (s := num) (((k8.trans Hx.refl).seq (seq_at hk6) : seqOf _ h8 = _))
            have e4 := pnotin_strs (s := num) (((‹Hx h6 _›.trans k9).trans k).seq (seq_at hk6))
            simp only [wE_var, wE_non, wE_bl, wE_int, wE_str, wE_tup, wE_lst, wE_bin, wE_cmp, wE_and, wE_or, wE_not, wE_ite, wE_idx, wE_call, wE_bi, wE_mt, wL_nil, wL_cons, wR_some, wV_some, wB_some, wG_some, wX_some, wT_bl, wT_int, wT_non, wT_tup, bindP, bindPs, wipeP, List.getElem?_cons_zero, List.getElem?_cons_succ, List.set_cons_zero, List.set_cons_succ, List.length_cons, List.length_nil, pbin_add, pbin_sub, pbi_int, pbi_lenT, pbi_tupT, isTup_tup, isTup_str, isTup_int, isTup_bl, isTup_non, isBl_bl, isBl_int, isBl_str, isInt_int, isInt_str, isStr_str, pcmp_lt, pcmp_le, pcmp_gt, pcmp_ge, pcmp_eqI, pcmp_neI, pcmp_eqS, pcmp_neS, pcmp_eqB, pcmp_isN, pcmp_isT, pcmp_isS, pcmp_isI, pcmp_isB, pcmp_isnotN, pcmp_isnotT, pcmp_isnotS, seq_tup, pidx_tup, atP_0, atP_1, atP_2, atP_3, SZ_le, SZ_lt, true_implies, false_implies, Bool.true_eq_false, Bool.false_eq_true, and_true, true_and, decide_eq_true_eq, decide_eq_false_iff_not, Bool.not_eq_true', Bool.not_eq_false', Nat.reduceLeDiff, Nat.reduceAdd, Nat.zero_le, Bool.not_true, Bool.not_false, e4, hu, decide_true]
            exact wS_nil (wS_nil ⟨_, rfl, k⟩)
          · rintro σ h' ⟨a1, rfl, k'⟩
            refine wS_cons (wS_asg rfl ?_)
            simp only [wE_var, wE_non, wE_bl, wE_int, wE_str, wE_tup, wE_lst, wE_bin, wE_cmp, wE_and, wE_or, wE_not, wE_ite, wE_idx, wE_call, wE_bi, wE_mt, wL_nil, wL_cons, wR_some, wV_some, wB_some, wG_some, wX_some, wT_bl, wT_int, wT_non, wT_tup, bindP, bindPs, wipeP, List.getElem?_cons_zero, List.getElem?_cons_succ, List.set_cons_zero, List.set_cons_succ, List.length_cons, List.length_nil, pbin_add, pbin_sub, pbi_int, pbi_lenT, pbi_tupT, isTup_tup, isTup_str, isTup_int, isTup_bl, isTup_non, isBl_bl, isBl_int, isBl_str, isInt_int, isInt_str, isStr_str, pcmp_lt, pcmp_le, pcmp_gt, pcmp_ge, pcmp_eqI, pcmp_neI, pcmp_eqS, pcmp_neS, pcmp_eqB, pcmp_isN, pcmp_isT, pcmp_isS, pcmp_isI, pcmp_isB, pcmp_isnotN, pcmp_isnotT, pcmp_isnotS, seq_tup, pidx_tup, atP_0, atP_1, atP_2, atP_3, SZ_le, SZ_lt, true_implies, false_implies, Bool.true_eq_false, Bool.false_eq_true, and_true, true_and, decide_eq_true_eq, decide_eq_false_iff_not, Bool.not_eq_true', Bool.not_eq_false', Nat.reduceLeDiff, Nat.reduceAdd, Nat.zero_le, Bool.not_true, Bool.not_false]
            refine lc_pure (L := ([] : List PV)) (enc := id) (fun _ => true) id ?_ (fun x hx => absurd hx List.not_mem_nil) (by simp [SZ]) fun h7 k7 => ?_
            · refine wI_itrT ?_
              simp only [wE_var, wE_non, wE_bl, wE_int, wE_str, wE_tup, wE_lst, wE_bin, wE_cmp, wE_and, wE_or, wE_not, wE_ite, wE_idx, wE_call, wE_bi, wE_mt, wL_nil, wL_cons, wR_some, wV_some, wB_some, wG_some, wX_some, wT_bl, wT_int, wT_non, wT_tup, bindP, bindPs, wipeP, List.getElem?_cons_zero, List.getElem?_cons_succ, List.set_cons_zero, List.set_cons_succ, List.length_cons, List.length_nil, pbin_add, pbin_sub, pbi_int, pbi_lenT, pbi_tupT, isTup_tup, isTup_str, isTup_int, isTup_bl, isTup_non, isBl_bl, isBl_int, isBl_str, isInt_int, isInt_str, isStr_str, pcmp_lt, pcmp_le, pcmp_gt, pcmp_ge, pcmp_eqI, pcmp_neI, pcmp_eqS, pcmp_neS, pcmp_eqB, pcmp_isN, pcmp_isT, pcmp_isS, pcmp_isI, pcmp_isB, pcmp_isnotN, pcmp_isnotT, pcmp_isnotS, seq_tup, pidx_tup, atP_0, atP_1, atP_2, atP_3, SZ_le, SZ_lt, true_implies, false_implies, Bool.true_eq_false, Bool.false_eq_true, and_true, true_and, decide_eq_true_eq, decide_eq_false_iff_not, Bool.not_eq_true', Bool.not_eq_false', Nat.reduceLeDiff, Nat.reduceAdd, Nat.zero_le, Bool.not_true, Bool.not_false]
              exact ⟨_, rfl, rfl, Hx.refl⟩
            · have hl10 : (h7 ++ [AO.lst (([] : List PV).filter (fun _ => true) |>.map id)])[h7.length]? = some (.lst (([] : List Sg).map PV.str)) := by simp
              refine wC_mono (twice_ok hl10 (by decide)) fun v h11 ⟨hv, k11⟩ => ?_
              subst hv
              refine wS_cons (wS_cond ?_)
              simp only [wE_var, wE_non, wE_bl, wE_int, wE_str, wE_tup, wE_lst, wE_bin, wE_cmp, wE_and, wE_or, wE_not, wE_ite, wE_idx, wE_call, wE_bi, wE_mt, wL_nil, wL_cons, wR_some, wV_some, wB_some, wG_some, wX_some, wT_bl, wT_int, wT_non, wT_tup, bindP, bindPs, wipeP, List.getElem?_cons_zero, List.getElem?_cons_succ, List.set_cons_zero, List.set_cons_succ, List.length_cons, List.length_nil, pbin_add, pbin_sub, pbi_int, pbi_lenT, pbi_tupT, isTup_tup, isTup_str, isTup_int, isTup_bl, isTup_non, isBl_bl, isBl_int, isBl_str, isInt_int, isInt_str, isStr_str, pcmp_lt, pcmp_le, pcmp_gt, pcmp_ge, pcmp_eqI, pcmp_neI, pcmp_eqS, pcmp_neS, pcmp_eqB, pcmp_isN, pcmp_isT, pcmp_isS, pcmp_isI, pcmp_isB, pcmp_isnotN, pcmp_isnotT, pcmp_isnotS, seq_tup, pidx_tup, atP_0, atP_1, atP_2, atP_3, SZ_le, SZ_lt, true_implies, false_implies, Bool.true_eq_false, Bool.false_eq_true, and_true, true_and, decide_eq_true_eq, decide_eq_false_iff_not, Bool.not_eq_true', Bool.not_eq_false', Nat.reduceLeDiff, Nat.reduceAdd, Nat.zero_le, Bool.not_true, Bool.not_false]
              exact wS_nil (wS_nil ⟨_, _, _, _, _, rfl, (((k.trans k9).trans k').trans k7).app.trans k11⟩)
        · rintro σ h ⟨a1, a3, a7, a8, a9, rfl, k⟩
          refine wS_cons (wS_ret ?_)
          simp only [wE_var, wE_non, wE_bl, wE_int, wE_str, wE_tup, wE_lst, wE_bin, wE_cmp, wE_and, wE_or, wE_not, wE_ite, wE_idx, wE_call, wE_bi, wE_mt, wL_nil, wL_cons, wR_some, wV_some, wB_some, wG_some, wX_some, wT_bl, wT_int, wT_non, wT_tup, bindP, bindPs, wipeP, List.getElem?_cons_zero, List.getElem?_cons_succ, List.set_cons_zero, List.set_cons_succ, List.length_cons, List.length_nil, pbin_add, pbin_sub, pbi_int, pbi_lenT, pbi_tupT, isTup_tup, isTup_str, isTup_int, isTup_bl, isTup_non, isBl_bl, isBl_int, isBl_str, isInt_int, isInt_str, isStr_str, pcmp_lt, pcmp_le, pcmp_gt, pcmp_ge, pcmp_eqI, pcmp_neI, pcmp_eqS, pcmp_neS, pcmp_eqB, pcmp_isN, pcmp_isT, pcmp_isS, pcmp_isI, pcmp_isB, pcmp_isnotN, pcmp_isnotT, pcmp_isnotS, seq_tup, pidx_tup, atP_0, atP_1, atP_2, atP_3, SZ_le, SZ_lt, true_implies, false_implies, Bool.true_eq_false, Bool.false_eq_true, and_true, true_and, decide_eq_true_eq, decide_eq_false_iff_not, Bool.not_eq_true', Bool.not_eq_false', Nat.reduceLeDiff, Nat.reduceAdd, Nat.zero_le, Bool.not_true, Bool.not_false]
          exact ⟨hf.symm, k6.trans k⟩
end Mi.K6
set_option Elab.async false
set_option linter.all false
set_option maxRecDepth 100000
set_option maxHeartbeats 4000000
namespace Mi.K6
open Mi
def bnum : PV := .tup [.str num, .int 0]
theorem used_ok {p : PV} {n : Nat} {h : AH} : wC (callF P (n + 1)) 11 [p, bnum, .tup []] h (fun v h' => v = .non ∧ h' = h) := by
  refine wC_of (d := ⟨3, 5, b11⟩) rfl rfl ?_
  show wS P _ b11 [some p, some bnum, some (.tup []), none, none] h _ _
  refine wS_cons (wS_asg rfl ?_)
  have e0 : pidx bnum (.int 0) h = some (.str num) := atP_0
  simp only [wE_var, wE_non, wE_bl, wE_int, wE_str, wE_tup, wE_lst, wE_bin, wE_cmp, wE_and, wE_or, wE_not, wE_ite, wE_idx, wE_call, wE_bi, wE_mt, wL_nil, wL_cons, wR_some, wV_some, wB_some, wG_some, wX_some, wT_bl, wT_int, wT_non, wT_tup, bindP, bindPs, wipeP, List.getElem?_cons_zero, List.getElem?_cons_succ, List.set_cons_zero, List.set_cons_succ, List.length_cons, List.length_nil, pbin_add, pbin_sub, pbi_int, pbi_lenT, pbi_tupT, isTup_tup, isTup_str, isTup_int, isTup_bl, isTup_non, isBl_bl, isBl_int, isBl_str, isInt_int, isInt_str, isStr_str, pcmp_lt, pcmp_le, pcmp_gt, pcmp_ge, pcmp_eqI, pcmp_neI, pcmp_eqS, pcmp_neS, pcmp_eqB, pcmp_isN, pcmp_isT, pcmp_isS, pcmp_isI, pcmp_isB, pcmp_isnotN, pcmp_isnotT, pcmp_isnotS, seq_tup, pidx_tup, atP_0, atP_1, atP_2, atP_3, SZ_le, SZ_lt, true_implies, false_implies, Bool.true_eq_false, Bool.false_eq_true, and_true, true_and, decide_eq_true_eq, decide_eq_false_iff_not, Bool.not_eq_true', Bool.not_eq_false', Nat.reduceLeDiff, Nat.reduceAdd, Nat.zero_le, Bool.not_true, Bool.not_false, e0]
  have c1 : ¬ num = [118, 97, 114] := by decide
  have c2 : ¬ num = [99, 97, 108, 108] := by decide
  have c3 : ¬ num = [109, 97, 107, 101] := by decide
  refine wS_cons (wS_cond ?_)
  simp only [wE_var, wE_non, wE_bl, wE_int, wE_str, wE_tup, wE_lst, wE_bin, wE_cmp, wE_and, wE_or, wE_not, wE_ite, wE_idx, wE_call, wE_bi, wE_mt, wL_nil, wL_cons, wR_some, wV_some, wB_some, wG_some, wX_some, wT_bl, wT_int, wT_non, wT_tup, bindP, bindPs, wipeP, List.getElem?_cons_zero, List.getElem?_cons_succ, List.set_cons_zero, List.set_cons_succ, List.length_cons, List.length_nil, pbin_add, pbin_sub, pbi_int, pbi_lenT, pbi_tupT, isTup_tup, isTup_str, isTup_int, isTup_bl, isTup_non, isBl_bl, isBl_int, isBl_str, isInt_int, isInt_str, isStr_str, pcmp_lt, pcmp_le, pcmp_gt, pcmp_ge, pcmp_eqI, pcmp_neI, pcmp_eqS, pcmp_neS, pcmp_eqB, pcmp_isN, pcmp_isT, pcmp_isS, pcmp_isI, pcmp_isB, pcmp_isnotN, pcmp_isnotT, pcmp_isnotS, seq_tup, pidx_tup, atP_0, atP_1, atP_2, atP_3, SZ_le, SZ_lt, true_implies, false_implies, Bool.true_eq_false, Bool.false_eq_true, and_true, true_and, decide_eq_true_eq, decide_eq_false_iff_not, Bool.not_eq_true', Bool.not_eq_false', Nat.reduceLeDiff, Nat.reduceAdd, Nat.zero_le, Bool.not_true, Bool.not_false, c1, decide_false]
  refine wS_nil (wS_cons (wS_cond ?_))
  simp only [wE_var, wE_non, wE_bl, wE_int, wE_str, wE_tup, wE_lst, wE_bin, wE_cmp, wE_and, wE_or, wE_not, wE_ite, wE_idx, wE_call, wE_bi, wE_mt, wL_nil, wL_cons, wR_some, wV_some, wB_some, wG_some, wX_some, wT_bl, wT_int, wT_non, wT_tup, bindP, bindPs, wipeP, List.getElem?_cons_zero, List.getElem?_cons_succ, List.set_cons_zero, List.set_cons_succ, List.length_cons, List.length_nil, pbin_add, pbin_sub, pbi_int, pbi_lenT, pbi_tupT, isTup_tup, isTup_str, isTup_int, isTup_bl, isTup_non, isBl_bl, isBl_int, isBl_str, isInt_int, isInt_str, isStr_str, pcmp_lt, pcmp_le, pcmp_gt, pcmp_ge, pcmp_eqI, pcmp_neI, pcmp_eqS, pcmp_neS, pcmp_eqB, pcmp_isN, pcmp_isT, pcmp_isS, pcmp_isI, pcmp_isB, pcmp_isnotN, pcmp_isnotT, pcmp_isnotS, seq_tup, pidx_tup, atP_0, atP_1, atP_2, atP_3, SZ_le, SZ_lt, true_implies, false_implies, Bool.true_eq_false, Bool.false_eq_true, and_true, true_and, decide_eq_true_eq, decide_eq_false_iff_not, Bool.not_eq_true', Bool.not_eq_false', Nat.reduceLeDiff, Nat.reduceAdd, Nat.zero_le, Bool.not_true, Bool.not_false, c2, decide_false]
  refine wS_nil (wS_cons (wS_cond ?_))
  simp only [wE_var, wE_non, wE_bl, wE_int, wE_str, wE_tup, wE_lst, wE_bin, wE_cmp, wE_and, wE_or, wE_not, wE_ite, wE_idx, wE_call, wE_bi, wE_mt, wL_nil, wL_cons, wR_some, wV_some, wB_some, wG_some, wX_some, wT_bl, wT_int, wT_non, wT_tup, bindP, bindPs, wipeP, List.getElem?_cons_zero, List.getElem?_cons_succ, List.set_cons_zero, List.set_cons_succ, List.length_cons, List.length_nil, pbin_add, pbin_sub, pbi_int, pbi_lenT, pbi_tupT, isTup_tup, isTup_str, isTup_int, isTup_bl, isTup_non, isBl_bl, isBl_int, isBl_str, isInt_int, isInt_str, isStr_str, pcmp_lt, pcmp_le, pcmp_gt, pcmp_ge, pcmp_eqI, pcmp_neI, pcmp_eqS, pcmp_neS, pcmp_eqB, pcmp_isN, pcmp_isT, pcmp_isS, pcmp_isI, pcmp_isB, pcmp_isnotN, pcmp_isnotT, pcmp_isnotS, seq_tup, pidx_tup, atP_0, atP_1, atP_2, atP_3, SZ_le, SZ_lt, true_implies, false_implies, Bool.true_eq_false, Bool.false_eq_true, and_true, true_and, decide_eq_true_eq, decide_eq_false_iff_not, Bool.not_eq_true', Bool.not_eq_false', Nat.reduceLeDiff, Nat.reduceAdd, Nat.zero_le, Bool.not_true, Bool.not_false, c3, decide_false]
  refine wS_nil (wS_cons (wS_ret ?_))
  simp only [wE_var, wE_non, wE_bl, wE_int, wE_str, wE_tup, wE_lst, wE_bin, wE_cmp, wE_and, wE_or, wE_not, wE_ite, wE_idx, wE_call, wE_bi, wE_mt, wL_nil, wL_cons, wR_some, wV_some, wB_some, wG_some, wX_some, wT_bl, wT_int, wT_non, wT_tup, bindP, bindPs, wipeP, List.getElem?_cons_zero, List.getElem?_cons_succ, List.set_cons_zero, List.set_cons_succ, List.length_cons, List.length_nil, pbin_add, pbin_sub, pbi_int, pbi_lenT, pbi_tupT, isTup_tup, isTup_str, isTup_int, isTup_bl, isTup_non, isBl_bl, isBl_int, isBl_str, isInt_int, isInt_str, isStr_str, pcmp_lt, pcmp_le, pcmp_gt, pcmp_ge, pcmp_eqI, pcmp_neI, pcmp_eqS, pcmp_neS, pcmp_eqB, pcmp_isN, pcmp_isT, pcmp_isS, pcmp_isI, pcmp_isB, pcmp_isnotN, pcmp_isnotT, pcmp_isnotS, seq_tup, pidx_tup, atP_0, atP_1, atP_2, atP_3, SZ_le, SZ_lt, true_implies, false_implies, Bool.true_eq_false, Bool.false_eq_true, and_true, true_and, decide_eq_true_eq, decide_eq_false_iff_not, Bool.not_eq_true', Bool.not_eq_false', Nat.reduceLeDiff, Nat.reduceAdd, Nat.zero_le, Bool.not_true, Bool.not_false]
theorem bparts_ok {n : Nat} {h : AH} : wC (callF P (n + 1)) 4 [bnum] h (fun v h' => v = .tup [] ∧ h' = h) := by
  refine wC_of (d := ⟨1, 4, b4⟩) rfl rfl ?_
  show wS P _ b4 [some bnum, none, none, none] h _ _
  refine wS_cons (wS_asg rfl ?_)
  have e0 : pidx bnum (.int 0) h = some (.str num) := atP_0
  simp only [wE_var, wE_non, wE_bl, wE_int, wE_str, wE_tup, wE_lst, wE_bin, wE_cmp, wE_and, wE_or, wE_not, wE_ite, wE_idx, wE_call, wE_bi, wE_mt, wL_nil, wL_cons, wR_some, wV_some, wB_some, wG_some, wX_some, wT_bl, wT_int, wT_non, wT_tup, bindP, bindPs, wipeP, List.getElem?_cons_zero, List.getElem?_cons_succ, List.set_cons_zero, List.set_cons_succ, List.length_cons, List.length_nil, pbin_add, pbin_sub, pbi_int, pbi_lenT, pbi_tupT, isTup_tup, isTup_str, isTup_int, isTup_bl, isTup_non, isBl_bl, isBl_int, isBl_str, isInt_int, isInt_str, isStr_str, pcmp_lt, pcmp_le, pcmp_gt, pcmp_ge, pcmp_eqI, pcmp_neI, pcmp_eqS, pcmp_neS, pcmp_eqB, pcmp_isN, pcmp_isT, pcmp_isS, pcmp_isI, pcmp_isB, pcmp_isnotN, pcmp_isnotT, pcmp_isnotS, seq_tup, pidx_tup, atP_0, atP_1, atP_2, atP_3, SZ_le, SZ_lt, true_implies, false_implies, Bool.true_eq_false, Bool.false_eq_true, and_true, true_and, decide_eq_true_eq, decide_eq_false_iff_not, Bool.not_eq_true', Bool.not_eq_false', Nat.reduceLeDiff, Nat.reduceAdd, Nat.zero_le, Bool.not_true, Bool.not_false, e0]
  refine wS_cons (wS_cond ?_)
  have e1 : pcmp .in_ (.str num) (.tup [.str [110, 117, 109], .str [116, 114, 117, 116, 104], .str [118, 97, 114]]) h = some true := by
    rw [pin_strs (ks := [num, tru, [118, 97, 114]]) rfl]; rfl
  simp only [wE_var, wE_non, wE_bl, wE_int, wE_str, wE_tup, wE_lst, wE_bin, wE_cmp, wE_and, wE_or, wE_not, wE_ite, wE_idx, wE_call, wE_bi, wE_mt, wL_nil, wL_cons, wR_some, wV_some, wB_some, wG_some, wX_some, wT_bl, wT_int, wT_non, wT_tup, bindP, bindPs, wipeP, List.getElem?_cons_zero, List.getElem?_cons_succ, List.set_cons_zero, List.set_cons_succ, List.length_cons, List.length_nil, pbin_add, pbin_sub, pbi_int, pbi_lenT, pbi_tupT, isTup_tup, isTup_str, isTup_int, isTup_bl, isTup_non, isBl_bl, isBl_int, isBl_str, isInt_int, isInt_str, isStr_str, pcmp_lt, pcmp_le, pcmp_gt, pcmp_ge, pcmp_eqI, pcmp_neI, pcmp_eqS, pcmp_neS, pcmp_eqB, pcmp_isN, pcmp_isT, pcmp_isS, pcmp_isI, pcmp_isB, pcmp_isnotN, pcmp_isnotT, pcmp_isnotS, seq_tup, pidx_tup, atP_0, atP_1, atP_2, atP_3, SZ_le, SZ_lt, true_implies, false_implies, Bool.true_eq_false, Bool.false_eq_true, and_true, true_and, decide_eq_true_eq, decide_eq_false_iff_not, Bool.not_eq_true', Bool.not_eq_false', Nat.reduceLeDiff, Nat.reduceAdd, Nat.zero_le, Bool.not_true, Bool.not_false, e1]
  refine wS_cons (wS_ret ?_)
  simp only [wE_var, wE_non, wE_bl, wE_int, wE_str, wE_tup, wE_lst, wE_bin, wE_cmp, wE_and, wE_or, wE_not, wE_ite, wE_idx, wE_call, wE_bi, wE_mt, wL_nil, wL_cons, wR_some, wV_some, wB_some, wG_some, wX_some, wT_bl, wT_int, wT_non, wT_tup, bindP, bindPs, wipeP, List.getElem?_cons_zero, List.getElem?_cons_succ, List.set_cons_zero, List.set_cons_succ, List.length_cons, List.length_nil, pbin_add, pbin_sub, pbi_int, pbi_lenT, pbi_tupT, isTup_tup, isTup_str, isTup_int, isTup_bl, isTup_non, isBl_bl, isBl_int, isBl_str, isInt_int, isInt_str, isStr_str, pcmp_lt, pcmp_le, pcmp_gt, pcmp_ge, pcmp_eqI, pcmp_neI, pcmp_eqS, pcmp_neS, pcmp_eqB, pcmp_isN, pcmp_isT, pcmp_isS, pcmp_isI, pcmp_isB, pcmp_isnotN, pcmp_isnotT, pcmp_isnotS, seq_tup, pidx_tup, atP_0, atP_1, atP_2, atP_3, SZ_le, SZ_lt, true_implies, false_implies, Bool.true_eq_false, Bool.false_eq_true, and_true, true_and, decide_eq_true_eq, decide_eq_false_iff_not, Bool.not_eq_true', Bool.not_eq_false', Nat.reduceLeDiff, Nat.reduceAdd, Nat.zero_le, Bool.not_true, Bool.not_false]
theorem body_ok {p : PV} {n : Nat} {h : AH} : wC (callF P (n + 2)) 12 [p, bnum, .tup []] h (fun v h' => v = .non ∧ h' = h) := by
  refine wC_of (d := ⟨3, 8, b12⟩) rfl rfl ?_
  show wS P _ b12 [some p, some bnum, some (.tup []), none, none, none, none, none] h _ _
  have e0 : ∀ h, pidx bnum (.int 0) h = some (.str num) := fun _ => atP_0
  refine wS_cons (wS_asg rfl ?_)
  simp only [wE_var, wE_non, wE_bl, wE_int, wE_str, wE_tup, wE_lst, wE_bin, wE_cmp, wE_and, wE_or, wE_not, wE_ite, wE_idx, wE_call, wE_bi, wE_mt, wL_nil, wL_cons, wR_some, wV_some, wB_some, wG_some, wX_some, wT_bl, wT_int, wT_non, wT_tup, bindP, bindPs, wipeP, List.getElem?_cons_zero, List.getElem?_cons_succ, List.set_cons_zero, List.set_cons_succ, List.length_cons, List.length_nil, pbin_add, pbin_sub, pbi_int, pbi_lenT, pbi_tupT, isTup_tup, isTup_str, isTup_int, isTup_bl, isTup_non, isBl_bl, isBl_int, isBl_str, isInt_int, isInt_str, isStr_str, pcmp_lt, pcmp_le, pcmp_gt, pcmp_ge, pcmp_eqI, pcmp_neI, pcmp_eqS, pcmp_neS, pcmp_eqB, pcmp_isN, pcmp_isT, pcmp_isS, pcmp_isI, pcmp_isB, pcmp_isnotN, pcmp_isnotT, pcmp_isnotS, seq_tup, pidx_tup, atP_0, atP_1, atP_2, atP_3, SZ_le, SZ_lt, true_implies, false_implies, Bool.true_eq_false, Bool.false_eq_true, and_true, true_and, decide_eq_true_eq, decide_eq_false_iff_not, Bool.not_eq_true', Bool.not_eq_false', Nat.reduceLeDiff, Nat.reduceAdd, Nat.zero_le, Bool.not_true, Bool.not_false]
  refine wC_mono used_ok fun v h' ⟨hv, hh⟩ => ?_
  subst hv hh
  refine wS_cons (wS_cond ?_)
  simp only [wE_var, wE_non, wE_bl, wE_int, wE_str, wE_tup, wE_lst, wE_bin, wE_cmp, wE_and, wE_or, wE_not, wE_ite, wE_idx, wE_call, wE_bi, wE_mt, wL_nil, wL_cons, wR_some, wV_some, wB_some, wG_some, wX_some, wT_bl, wT_int, wT_non, wT_tup, bindP, bindPs, wipeP, List.getElem?_cons_zero, List.getElem?_cons_succ, List.set_cons_zero, List.set_cons_succ, List.length_cons, List.length_nil, pbin_add, pbin_sub, pbi_int, pbi_lenT, pbi_tupT, isTup_tup, isTup_str, isTup_int, isTup_bl, isTup_non, isBl_bl, isBl_int, isBl_str, isInt_int, isInt_str, isStr_str, pcmp_lt, pcmp_le, pcmp_gt, pcmp_ge, pcmp_eqI, pcmp_neI, pcmp_eqS, pcmp_neS, pcmp_eqB, pcmp_isN, pcmp_isT, pcmp_isS, pcmp_isI, pcmp_isB, pcmp_isnotN, pcmp_isnotT, pcmp_isnotS, seq_tup, pidx_tup, atP_0, atP_1, atP_2, atP_3, SZ_le, SZ_lt, true_implies, false_implies, Bool.true_eq_false, Bool.false_eq_true, and_true, true_and, decide_eq_true_eq, decide_eq_false_iff_not, Bool.not_eq_true', Bool.not_eq_false', Nat.reduceLeDiff, Nat.reduceAdd, Nat.zero_le, Bool.not_true, Bool.not_false]
  have c1 : ¬ num = [108, 101, 116] := by decide
  have c2 : ¬ num = [109, 97, 116, 99, 104] := by decide
  refine wS_nil (wS_cons (wS_cond ?_))
  simp only [wE_var, wE_non, wE_bl, wE_int, wE_str, wE_tup, wE_lst, wE_bin, wE_cmp, wE_and, wE_or, wE_not, wE_ite, wE_idx, wE_call, wE_bi, wE_mt, wL_nil, wL_cons, wR_some, wV_some, wB_some, wG_some, wX_some, wT_bl, wT_int, wT_non, wT_tup, bindP, bindPs, wipeP, List.getElem?_cons_zero, List.getElem?_cons_succ, List.set_cons_zero, List.set_cons_succ, List.length_cons, List.length_nil, pbin_add, pbin_sub, pbi_int, pbi_lenT, pbi_tupT, isTup_tup, isTup_str, isTup_int, isTup_bl, isTup_non, isBl_bl, isBl_int, isBl_str, isInt_int, isInt_str, isStr_str, pcmp_lt, pcmp_le, pcmp_gt, pcmp_ge, pcmp_eqI, pcmp_neI, pcmp_eqS, pcmp_neS, pcmp_eqB, pcmp_isN, pcmp_isT, pcmp_isS, pcmp_isI, pcmp_isB, pcmp_isnotN, pcmp_isnotT, pcmp_isnotS, seq_tup, pidx_tup, atP_0, atP_1, atP_2, atP_3, SZ_le, SZ_lt, true_implies, false_implies, Bool.true_eq_false, Bool.false_eq_true, and_true, true_and, decide_eq_true_eq, decide_eq_false_iff_not, Bool.not_eq_true', Bool.not_eq_false', Nat.reduceLeDiff, Nat.reduceAdd, Nat.zero_le, Bool.not_true, Bool.not_false, e0, c1, decide_false]
  refine wS_nil (wS_cons (wS_cond ?_))
  simp only [wE_var, wE_non, wE_bl, wE_int, wE_str, wE_tup, wE_lst, wE_bin, wE_cmp, wE_and, wE_or, wE_not, wE_ite, wE_idx, wE_call, wE_bi, wE_mt, wL_nil, wL_cons, wR_some, wV_some, wB_some, wG_some, wX_some, wT_bl, wT_int, wT_non, wT_tup, bindP, bindPs, wipeP, List.getElem?_cons_zero, List.getElem?_cons_succ, List.set_cons_zero, List.set_cons_succ, List.length_cons, List.length_nil, pbin_add, pbin_sub, pbi_int, pbi_lenT, pbi_tupT, isTup_tup, isTup_str, isTup_int, isTup_bl, isTup_non, isBl_bl, isBl_int, isBl_str, isInt_int, isInt_str, isStr_str, pcmp_lt, pcmp_le, pcmp_gt, pcmp_ge, pcmp_eqI, pcmp_neI, pcmp_eqS, pcmp_neS, pcmp_eqB, pcmp_isN, pcmp_isT, pcmp_isS, pcmp_isI, pcmp_isB, pcmp_isnotN, pcmp_isnotT, pcmp_isnotS, seq_tup, pidx_tup, atP_0, atP_1, atP_2, atP_3, SZ_le, SZ_lt, true_implies, false_implies, Bool.true_eq_false, Bool.false_eq_true, and_true, true_and, decide_eq_true_eq, decide_eq_false_iff_not, Bool.not_eq_true', Bool.not_eq_false', Nat.reduceLeDiff, Nat.reduceAdd, Nat.zero_le, Bool.not_true, Bool.not_false, e0, c2, decide_false]
  refine wS_nil (wS_cons (wS_for ([] : List PV) id (fun _ => True) (fun pre σ h => σ = [some p, some bnum, some (.tup []), some .non, none, none, none, none] ∧ h = h') ?_ (fun _ _ _ _ => trivial) ?_ ?_))
  · refine wI_itrT ?_
    simp only [wE_var, wE_non, wE_bl, wE_int, wE_str, wE_tup, wE_lst, wE_bin, wE_cmp, wE_and, wE_or, wE_not, wE_ite, wE_idx, wE_call, wE_bi, wE_mt, wL_nil, wL_cons, wR_some, wV_some, wB_some, wG_some, wX_some, wT_bl, wT_int, wT_non, wT_tup, bindP, bindPs, wipeP, List.getElem?_cons_zero, List.getElem?_cons_succ, List.set_cons_zero, List.set_cons_succ, List.length_cons, List.length_nil, pbin_add, pbin_sub, pbi_int, pbi_lenT, pbi_tupT, isTup_tup, isTup_str, isTup_int, isTup_bl, isTup_non, isBl_bl, isBl_int, isBl_str, isInt_int, isInt_str, isStr_str, pcmp_lt, pcmp_le, pcmp_gt, pcmp_ge, pcmp_eqI, pcmp_neI, pcmp_eqS, pcmp_neS, pcmp_eqB, pcmp_isN, pcmp_isT, pcmp_isS, pcmp_isI, pcmp_isB, pcmp_isnotN, pcmp_isnotT, pcmp_isnotS, seq_tup, pidx_tup, atP_0, atP_1, atP_2, atP_3, SZ_le, SZ_lt, true_implies, false_implies, Bool.true_eq_false, Bool.false_eq_true, and_true, true_and, decide_eq_true_eq, decide_eq_false_iff_not, Bool.not_eq_true', Bool.not_eq_false', Nat.reduceLeDiff, Nat.reduceAdd, Nat.zero_le, Bool.not_true, Bool.not_false]
    refine wC_mono bparts_ok fun v h2 ⟨hv, hh⟩ => ?_
    subst hv hh
    exact ⟨_, rfl, .inl rfl, rfl⟩
  · intro pre x post e
    simp at e
  · rintro σ h2 ⟨rfl, rfl⟩
    refine wS_cons (wS_ret ?_)
    simp only [wE_var, wE_non, wE_bl, wE_int, wE_str, wE_tup, wE_lst, wE_bin, wE_cmp, wE_and, wE_or, wE_not, wE_ite, wE_idx, wE_call, wE_bi, wE_mt, wL_nil, wL_cons, wR_some, wV_some, wB_some, wG_some, wX_some, wT_bl, wT_int, wT_non, wT_tup, bindP, bindPs, wipeP, List.getElem?_cons_zero, List.getElem?_cons_succ, List.set_cons_zero, List.set_cons_succ, List.length_cons, List.length_nil, pbin_add, pbin_sub, pbi_int, pbi_lenT, pbi_tupT, isTup_tup, isTup_str, isTup_int, isTup_bl, isTup_non, isBl_bl, isBl_int, isBl_str, isInt_int, isInt_str, isStr_str, pcmp_lt, pcmp_le, pcmp_gt, pcmp_ge, pcmp_eqI, pcmp_neI, pcmp_eqS, pcmp_neS, pcmp_eqB, pcmp_isN, pcmp_isT, pcmp_isS, pcmp_isI, pcmp_isB, pcmp_isnotN, pcmp_isnotT, pcmp_isnotS, seq_tup, pidx_tup, atP_0, atP_1, atP_2, atP_3, SZ_le, SZ_lt, true_implies, false_implies, Bool.true_eq_false, Bool.false_eq_true, and_true, true_and, decide_eq_true_eq, decide_eq_false_iff_not, Bool.not_eq_true', Bool.not_eq_false', Nat.reduceLeDiff, Nat.reduceAdd, Nat.zero_le, Bool.not_true, Bool.not_false]
theorem scope_ok {D : List Dt} {n : Nat} {h0 : AH} (s : Shape D) : wC (callF P (n + 9)) 13 [prog D] h0 (fun v h' => v = fault D ∧ Hx h0 h') := by
  refine wC_of (d := ⟨1, 6, b13⟩) rfl rfl ?_
  show wS P _ b13 [some (prog D), none, none, none, none, none] h0 _ _
  refine wS_cons (wS_asg rfl ?_)
  simp only [wE_var, wE_non, wE_bl, wE_int, wE_str, wE_tup, wE_lst, wE_bin, wE_cmp, wE_and, wE_or, wE_not, wE_ite, wE_idx, wE_call, wE_bi, wE_mt, wL_nil, wL_cons, wR_some, wV_some, wB_some, wG_some, wX_some, wT_bl, wT_int, wT_non, wT_tup, bindP, bindPs, wipeP, List.getElem?_cons_zero, List.getElem?_cons_succ, List.set_cons_zero, List.set_cons_succ, List.length_cons, List.length_nil, pbin_add, pbin_sub, pbi_int, pbi_lenT, pbi_tupT, isTup_tup, isTup_str, isTup_int, isTup_bl, isTup_non, isBl_bl, isBl_int, isBl_str, isInt_int, isInt_str, isStr_str, pcmp_lt, pcmp_le, pcmp_gt, pcmp_ge, pcmp_eqI, pcmp_neI, pcmp_eqS, pcmp_neS, pcmp_eqB, pcmp_isN, pcmp_isT, pcmp_isS, pcmp_isI, pcmp_isB, pcmp_isnotN, pcmp_isnotT, pcmp_isnotS, seq_tup, pidx_tup, atP_0, atP_1, atP_2, atP_3, SZ_le, SZ_lt, true_implies, false_implies, Bool.true_eq_false, Bool.false_eq_true, and_true, true_and, decide_eq_true_eq, decide_eq_false_iff_not, Bool.not_eq_true', Bool.not_eq_false', Nat.reduceLeDiff, Nat.reduceAdd, Nat.zero_le, Bool.not_true, Bool.not_false]
  refine wC_mono (top_ok s) fun v h1 ⟨hv, k1⟩ => ?_
  subst hv
  refine wS_cons (wS_cond ?_)
  have hf : fault D = .non ∨ ∃ k, fault D = .tup [.str noval, .str k] := by
    unfold fault
    split
    · exact .inl rfl
    · exact .inr ⟨_, rfl⟩
  rcases hf with hf | ⟨k, hf⟩
  · rw [hf]
    simp only [wE_var, wE_non, wE_bl, wE_int, wE_str, wE_tup, wE_lst, wE_bin, wE_cmp, wE_and, wE_or, wE_not, wE_ite, wE_idx, wE_call, wE_bi, wE_mt, wL_nil, wL_cons, wR_some, wV_some, wB_some, wG_some, wX_some, wT_bl, wT_int, wT_non, wT_tup, bindP, bindPs, wipeP, List.getElem?_cons_zero, List.getElem?_cons_succ, List.set_cons_zero, List.set_cons_succ, List.length_cons, List.length_nil, pbin_add, pbin_sub, pbi_int, pbi_lenT, pbi_tupT, isTup_tup, isTup_str, isTup_int, isTup_bl, isTup_non, isBl_bl, isBl_int, isBl_str, isInt_int, isInt_str, isStr_str, pcmp_lt, pcmp_le, pcmp_gt, pcmp_ge, pcmp_eqI, pcmp_neI, pcmp_eqS, pcmp_neS, pcmp_eqB, pcmp_isN, pcmp_isT, pcmp_isS, pcmp_isI, pcmp_isB, pcmp_isnotN, pcmp_isnotT, pcmp_isnotS, seq_tup, pidx_tup, atP_0, atP_1, atP_2, atP_3, SZ_le, SZ_lt, true_implies, false_implies, Bool.true_eq_false, Bool.false_eq_true, and_true, true_and, decide_eq_true_eq, decide_eq_false_iff_not, Bool.not_eq_true', Bool.not_eq_false', Nat.reduceLeDiff, Nat.reduceAdd, Nat.zero_le, Bool.not_true, Bool.not_false]
    refine wS_nil (wS_cons (wS_for [PV.tup [.str [102], .tup [], .str num, bnum]] id (fun _ => True) (fun pre σ h => ∃ (a2 a3 a4 : Option PV), σ = [some (prog D), some .non, a2, a3, a4, none] ∧ Hx h1 h) ?_ (fun _ _ _ _ => trivial) ?_ ?_))
    · refine wI_itrT ?_
      simp only [wE_var, wE_non, wE_bl, wE_int, wE_str, wE_tup, wE_lst, wE_bin, wE_cmp, wE_and, wE_or, wE_not, wE_ite, wE_idx, wE_call, wE_bi, wE_mt, wL_nil, wL_cons, wR_some, wV_some, wB_some, wG_some, wX_some, wT_bl, wT_int, wT_non, wT_tup, bindP, bindPs, wipeP, List.getElem?_cons_zero, List.getElem?_cons_succ, List.set_cons_zero, List.set_cons_succ, List.length_cons, List.length_nil, pbin_add, pbin_sub, pbi_int, pbi_lenT, pbi_tupT, isTup_tup, isTup_str, isTup_int, isTup_bl, isTup_non, isBl_bl, isBl_int, isBl_str, isInt_int, isInt_str, isStr_str, pcmp_lt, pcmp_le, pcmp_gt, pcmp_ge, pcmp_eqI, pcmp_neI, pcmp_eqS, pcmp_neS, pcmp_eqB, pcmp_isN, pcmp_isT, pcmp_isS, pcmp_isI, pcmp_isB, pcmp_isnotN, pcmp_isnotT, pcmp_isnotS, seq_tup, pidx_tup, atP_0, atP_1, atP_2, atP_3, SZ_le, SZ_lt, true_implies, false_implies, Bool.true_eq_false, Bool.false_eq_true, and_true, true_and, decide_eq_true_eq, decide_eq_false_iff_not, Bool.not_eq_true', Bool.not_eq_false', Nat.reduceLeDiff, Nat.reduceAdd, Nat.zero_le, Bool.not_true, Bool.not_false, prog, fu]
      exact ⟨_, rfl, .inl rfl, _, _, _, rfl, Hx.refl⟩
    · rintro pre x post e σ h ⟨a2, a3, a4, rfl, k⟩
      have hx : x ∈ [PV.tup [.str [102], .tup [], .str num, bnum]] := by rw [e]; simp
      rw [List.mem_singleton] at hx
      subst hx
      refine ⟨_, rfl, ?_⟩
      show wS P _ _ [some (prog D), some .non, some (.str num), some (.tup []), some bnum, none] h _ _
      refine wS_cons (wS_asg rfl ?_)
      simp only [wE_var, wE_non, wE_bl, wE_int, wE_str, wE_tup, wE_lst, wE_bin, wE_cmp, wE_and, wE_or, wE_not, wE_ite, wE_idx, wE_call, wE_bi, wE_mt, wL_nil, wL_cons, wR_some, wV_some, wB_some, wG_some, wX_some, wT_bl, wT_int, wT_non, wT_tup, bindP, bindPs, wipeP, List.getElem?_cons_zero, List.getElem?_cons_succ, List.set_cons_zero, List.set_cons_succ, List.length_cons, List.length_nil, pbin_add, pbin_sub, pbi_int, pbi_lenT, pbi_tupT, isTup_tup, isTup_str, isTup_int, isTup_bl, isTup_non, isBl_bl, isBl_int, isBl_str, isInt_int, isInt_str, isStr_str, pcmp_lt, pcmp_le, pcmp_gt, pcmp_ge, pcmp_eqI, pcmp_neI, pcmp_eqS, pcmp_neS, pcmp_eqB, pcmp_isN, pcmp_isT, pcmp_isS, pcmp_isI, pcmp_isB, pcmp_isnotN, pcmp_isnotT, pcmp_isnotS, seq_tup, pidx_tup, atP_0, atP_1, atP_2, atP_3, SZ_le, SZ_lt, true_implies, false_implies, Bool.true_eq_false, Bool.false_eq_true, and_true, true_and, decide_eq_true_eq, decide_eq_false_iff_not, Bool.not_eq_true', Bool.not_eq_false', Nat.reduceLeDiff, Nat.reduceAdd, Nat.zero_le, Bool.not_true, Bool.not_false]
      refine wE_gen ?_
      refine ⟨.fix [], h, rfl, ?_⟩
      refine ⟨[], false, h, rfl, ?_⟩
      refine wR_some.2 ?_
      refine wC_mono body_ok fun v h2 ⟨hv, hh⟩ => ?_
      subst hv hh
      refine wS_cons (wS_cond ?_)
      simp only [wE_var, wE_non, wE_bl, wE_int, wE_str, wE_tup, wE_lst, wE_bin, wE_cmp, wE_and, wE_or, wE_not, wE_ite, wE_idx, wE_call, wE_bi, wE_mt, wL_nil, wL_cons, wR_some, wV_some, wB_some, wG_some, wX_some, wT_bl, wT_int, wT_non, wT_tup, bindP, bindPs, wipeP, List.getElem?_cons_zero, List.getElem?_cons_succ, List.set_cons_zero, List.set_cons_succ, List.length_cons, List.length_nil, pbin_add, pbin_sub, pbi_int, pbi_lenT, pbi_tupT, isTup_tup, isTup_str, isTup_int, isTup_bl, isTup_non, isBl_bl, isBl_int, isBl_str, isInt_int, isInt_str, isStr_str, pcmp_lt, pcmp_le, pcmp_gt, pcmp_ge, pcmp_eqI, pcmp_neI, pcmp_eqS, pcmp_neS, pcmp_eqB, pcmp_isN, pcmp_isT, pcmp_isS, pcmp_isI, pcmp_isB, pcmp_isnotN, pcmp_isnotT, pcmp_isnotS, seq_tup, pidx_tup, atP_0, atP_1, atP_2, atP_3, SZ_le, SZ_lt, true_implies, false_implies, Bool.true_eq_false, Bool.false_eq_true, and_true, true_and, decide_eq_true_eq, decide_eq_false_iff_not, Bool.not_eq_true', Bool.not_eq_false', Nat.reduceLeDiff, Nat.reduceAdd, Nat.zero_le, Bool.not_true, Bool.not_false]
      exact wS_nil (wS_nil ⟨_, _, _, rfl, k⟩)
    · rintro σ h ⟨a2, a3, a4, rfl, k⟩
      refine wS_cons (wS_ret ?_)
      simp only [wE_var, wE_non, wE_bl, wE_int, wE_str, wE_tup, wE_lst, wE_bin, wE_cmp, wE_and, wE_or, wE_not, wE_ite, wE_idx, wE_call, wE_bi, wE_mt, wL_nil, wL_cons, wR_some, wV_some, wB_some, wG_some, wX_some, wT_bl, wT_int, wT_non, wT_tup, bindP, bindPs, wipeP, List.getElem?_cons_zero, List.getElem?_cons_succ, List.set_cons_zero, List.set_cons_succ, List.length_cons, List.length_nil, pbin_add, pbin_sub, pbi_int, pbi_lenT, pbi_tupT, isTup_tup, isTup_str, isTup_int, isTup_bl, isTup_non, isBl_bl, isBl_int, isBl_str, isInt_int, isInt_str, isStr_str, pcmp_lt, pcmp_le, pcmp_gt, pcmp_ge, pcmp_eqI, pcmp_neI, pcmp_eqS, pcmp_neS, pcmp_eqB, pcmp_isN, pcmp_isT, pcmp_isS, pcmp_isI, pcmp_isB, pcmp_isnotN, pcmp_isnotT, pcmp_isnotS, seq_tup, pidx_tup, atP_0, atP_1, atP_2, atP_3, SZ_le, SZ_lt, true_implies, false_implies, Bool.true_eq_false, Bool.false_eq_true, and_true, true_and, decide_eq_true_eq, decide_eq_false_iff_not, Bool.not_eq_true', Bool.not_eq_false', Nat.reduceLeDiff, Nat.reduceAdd, Nat.zero_le, Bool.not_true, Bool.not_false]
      exact k1.trans k
  · rw [hf]
    simp only [wE_var, wE_non, wE_bl, wE_int, wE_str, wE_tup, wE_lst, wE_bin, wE_cmp, wE_and, wE_or, wE_not, wE_ite, wE_idx, wE_call, wE_bi, wE_mt, wL_nil, wL_cons, wR_some, wV_some, wB_some, wG_some, wX_some, wT_bl, wT_int, wT_non, wT_tup, bindP, bindPs, wipeP, List.getElem?_cons_zero, List.getElem?_cons_succ, List.set_cons_zero, List.set_cons_succ, List.length_cons, List.length_nil, pbin_add, pbin_sub, pbi_int, pbi_lenT, pbi_tupT, isTup_tup, isTup_str, isTup_int, isTup_bl, isTup_non, isBl_bl, isBl_int, isBl_str, isInt_int, isInt_str, isStr_str, pcmp_lt, pcmp_le, pcmp_gt, pcmp_ge, pcmp_eqI, pcmp_neI, pcmp_eqS, pcmp_neS, pcmp_eqB, pcmp_isN, pcmp_isT, pcmp_isS, pcmp_isI, pcmp_isB, pcmp_isnotN, pcmp_isnotT, pcmp_isnotS, seq_tup, pidx_tup, atP_0, atP_1, atP_2, atP_3, SZ_le, SZ_lt, true_implies, false_implies, Bool.true_eq_false, Bool.false_eq_true, and_true, true_and, decide_eq_true_eq, decide_eq_false_iff_not, Bool.not_eq_true', Bool.not_eq_false', Nat.reduceLeDiff, Nat.reduceAdd, Nat.zero_le, Bool.not_true, Bool.not_false]
    refine wS_cons (wS_ret ?_)
    simp only [wE_var, wE_non, wE_bl, wE_int, wE_str, wE_tup, wE_lst, wE_bin, wE_cmp, wE_and, wE_or, wE_not, wE_ite, wE_idx, wE_call, wE_bi, wE_mt, wL_nil, wL_cons, wR_some, wV_some, wB_some, wG_some, wX_some, wT_bl, wT_int, wT_non, wT_tup, bindP, bindPs, wipeP, List.getElem?_cons_zero, List.getElem?_cons_succ, List.set_cons_zero, List.set_cons_succ, List.length_cons, List.length_nil, pbin_add, pbin_sub, pbi_int, pbi_lenT, pbi_tupT, isTup_tup, isTup_str, isTup_int, isTup_bl, isTup_non, isBl_bl, isBl_int, isBl_str, isInt_int, isInt_str, isStr_str, pcmp_lt, pcmp_le, pcmp_gt, pcmp_ge, pcmp_eqI, pcmp_neI, pcmp_eqS, pcmp_neS, pcmp_eqB, pcmp_isN, pcmp_isT, pcmp_isS, pcmp_isI, pcmp_isB, pcmp_isnotN, pcmp_isnotT, pcmp_isnotS, seq_tup, pidx_tup, atP_0, atP_1, atP_2, atP_3, SZ_le, SZ_lt, true_implies, false_implies, Bool.true_eq_false, Bool.false_eq_true, and_true, true_and, decide_eq_true_eq, decide_eq_false_iff_not, Bool.not_eq_true', Bool.not_eq_false', Nat.reduceLeDiff, Nat.reduceAdd, Nat.zero_le, Bool.not_true, Bool.not_false]
    exact k1
/-! maker_of -/
theorem maker_ok {D : List Dt} {n : Nat} {h0 : AH} (s : Shape D) {k j : Nat} {d : Dt} {m : Mk} (hk : D[k]? = some d) (hj : d.2[j]? = some m) : wC (callF P (n + 1)) 1 [prog D, .str m.1] h0 (fun v h' => v = .tup [.str d.1, .int j, .tup (m.2.map .str)] ∧ h' = h0) := by
  refine wC_of (d := ⟨2, 7, b1⟩) rfl rfl ?_
  show wS P _ b1 [some (prog D), some (.str m.1), none, none, none, none, none] h0 _ _
  have hmk := s.mkn k d j m hk hj
  refine wS_cons (wS_for D encD (fun _ => True) (fun pre σ h => ∃ (a2 a3 a4 a5 a6 : Option PV), σ = [some (prog D), some (.str m.1), a2, a3, a4, a5, a6] ∧ h = h0 ∧ pre.length ≤ k) ?_ (fun _ _ _ _ => trivial) ?_ ?_)
  · refine wI_itrT ?_
    simp only [wE_var, wE_non, wE_bl, wE_int, wE_str, wE_tup, wE_lst, wE_bin, wE_cmp, wE_and, wE_or, wE_not, wE_ite, wE_idx, wE_call, wE_bi, wE_mt, wL_nil, wL_cons, wR_some, wV_some, wB_some, wG_some, wX_some, wT_bl, wT_int, wT_non, wT_tup, bindP, bindPs, wipeP, List.getElem?_cons_zero, List.getElem?_cons_succ, List.set_cons_zero, List.set_cons_succ, List.length_cons, List.length_nil, pbin_add, pbin_sub, pbi_int, pbi_lenT, pbi_tupT, isTup_tup, isTup_str, isTup_int, isTup_bl, isTup_non, isBl_bl, isBl_int, isBl_str, isInt_int, isInt_str, isStr_str, pcmp_lt, pcmp_le, pcmp_gt, pcmp_ge, pcmp_eqI, pcmp_neI, pcmp_eqS, pcmp_neS, pcmp_eqB, pcmp_isN, pcmp_isT, pcmp_isS, pcmp_isI, pcmp_isB, pcmp_isnotN, pcmp_isnotT, pcmp_isnotS, seq_tup, pidx_tup, atP_0, atP_1, atP_2, atP_3, SZ_le, SZ_lt, true_implies, false_implies, Bool.true_eq_false, Bool.false_eq_true, and_true, true_and, decide_eq_true_eq, decide_eq_false_iff_not, Bool.not_eq_true', Bool.not_eq_false', Nat.reduceLeDiff, Nat.reduceAdd, Nat.zero_le, Bool.not_true, Bool.not_false, prog]
    exact ⟨_, rfl, .inl rfl, _, _, _, _, _, rfl⟩
  · rintro pre d' post e σ h ⟨a2, a3, a4, a5, a6, rfl, rfl, hpk⟩
    have hd' : D[pre.length]? = some d' := by rw [e]; simp
    refine ⟨_, rfl, ?_⟩
    show wS P _ _ [some (prog D), some (.str m.1), some (.str d'.1), some (.tup (d'.2.map encM)), a4, a5, a6] h _ _
    refine wS_cons (wS_for d'.2.zipIdx (fun p => PV.tup [.int (p.2 : Nat), encM p.1]) (fun _ => True) (fun pre2 σ h' => ∃ (a4 a5 a6 : Option PV), σ = [some (prog D), some (.str m.1), some (.str d'.1), some (.tup (d'.2.map encM)), a4, a5, a6] ∧ h' = h ∧ (pre.length = k → pre2.length ≤ j)) ?_ (fun _ _ _ _ => trivial) ?_ ?_)
    · refine wI_enumT ?_
      simp only [wE_var, wE_non, wE_bl, wE_int, wE_str, wE_tup, wE_lst, wE_bin, wE_cmp, wE_and, wE_or, wE_not, wE_ite, wE_idx, wE_call, wE_bi, wE_mt, wL_nil, wL_cons, wR_some, wV_some, wB_some, wG_some, wX_some, wT_bl, wT_int, wT_non, wT_tup, bindP, bindPs, wipeP, List.getElem?_cons_zero, List.getElem?_cons_succ, List.set_cons_zero, List.set_cons_succ, List.length_cons, List.length_nil, pbin_add, pbin_sub, pbi_int, pbi_lenT, pbi_tupT, isTup_tup, isTup_str, isTup_int, isTup_bl, isTup_non, isBl_bl, isBl_int, isBl_str, isInt_int, isInt_str, isStr_str, pcmp_lt, pcmp_le, pcmp_gt, pcmp_ge, pcmp_eqI, pcmp_neI, pcmp_eqS, pcmp_neS, pcmp_eqB, pcmp_isN, pcmp_isT, pcmp_isS, pcmp_isI, pcmp_isB, pcmp_isnotN, pcmp_isnotT, pcmp_isnotS, seq_tup, pidx_tup, atP_0, atP_1, atP_2, atP_3, SZ_le, SZ_lt, true_implies, false_implies, Bool.true_eq_false, Bool.false_eq_true, and_true, true_and, decide_eq_true_eq, decide_eq_false_iff_not, Bool.not_eq_true', Bool.not_eq_false', Nat.reduceLeDiff, Nat.reduceAdd, Nat.zero_le, Bool.not_true, Bool.not_false]
      refine ⟨_, rfl, .inl ?_, _, _, _, rfl, fun _ => by trivial⟩
      rw [List.zipIdx_map, List.map_map]; rfl
    · rintro pre2 ⟨m', i⟩ post2 e2 σ h' ⟨a4, a5, a6, rfl, rfl, hpj⟩
      obtain ⟨hi, hks⟩ := zip_split e2
      dsimp only at hi hks
      have hm' : d'.2[pre2.length]? = some m' := by rw [hks]; simp
      subst hi
      refine ⟨_, rfl, ?_⟩
      show wS P _ _ [some (prog D), some (.str m.1), some (.str d'.1), some (.tup (d'.2.map encM)), some (.int (pre2.length : Int)), some (.str m'.1), some (.tup (m'.2.map .str))] h' _ _
      refine wS_cons (wS_cond ?_)
      simp only [wE_var, wE_non, wE_bl, wE_int, wE_str, wE_tup, wE_lst, wE_bin, wE_cmp, wE_and, wE_or, wE_not, wE_ite, wE_idx, wE_call, wE_bi, wE_mt, wL_nil, wL_cons, wR_some, wV_some, wB_some, wG_some, wX_some, wT_bl, wT_int, wT_non, wT_tup, bindP, bindPs, wipeP, List.getElem?_cons_zero, List.getElem?_cons_succ, List.set_cons_zero, List.set_cons_succ, List.length_cons, List.length_nil, pbin_add, pbin_sub, pbi_int, pbi_lenT, pbi_tupT, isTup_tup, isTup_str, isTup_int, isTup_bl, isTup_non, isBl_bl, isBl_int, isBl_str, isInt_int, isInt_str, isStr_str, pcmp_lt, pcmp_le, pcmp_gt, pcmp_ge, pcmp_eqI, pcmp_neI, pcmp_eqS, pcmp_neS, pcmp_eqB, pcmp_isN, pcmp_isT, pcmp_isS, pcmp_isI, pcmp_isB, pcmp_isnotN, pcmp_isnotT, pcmp_isnotS, seq_tup, pidx_tup, atP_0, atP_1, atP_2, atP_3, SZ_le, SZ_lt, true_implies, false_implies, Bool.true_eq_false, Bool.false_eq_true, and_true, true_and, decide_eq_true_eq, decide_eq_false_iff_not, Bool.not_eq_true', Bool.not_eq_false', Nat.reduceLeDiff, Nat.reduceAdd, Nat.zero_le, Bool.not_true, Bool.not_false]
      have hmk' := s.mkn _ d' _ m' hd' hm'
      refine ⟨fun c => ?_, fun c => ?_⟩
      · rw [hmk, hmk'] at c
        obtain ⟨c1, c2⟩ := mn_inj c
        rw [c2, hk] at hd'
        cases hd'
        rw [c1, hj] at hm'
        cases hm'
        refine wS_cons (wS_ret ?_)
        simp only [wE_var, wE_non, wE_bl, wE_int, wE_str, wE_tup, wE_lst, wE_bin, wE_cmp, wE_and, wE_or, wE_not, wE_ite, wE_idx, wE_call, wE_bi, wE_mt, wL_nil, wL_cons, wR_some, wV_some, wB_some, wG_some, wX_some, wT_bl, wT_int, wT_non, wT_tup, bindP, bindPs, wipeP, List.getElem?_cons_zero, List.getElem?_cons_succ, List.set_cons_zero, List.set_cons_succ, List.length_cons, List.length_nil, pbin_add, pbin_sub, pbi_int, pbi_lenT, pbi_tupT, isTup_tup, isTup_str, isTup_int, isTup_bl, isTup_non, isBl_bl, isBl_int, isBl_str, isInt_int, isInt_str, isStr_str, pcmp_lt, pcmp_le, pcmp_gt, pcmp_ge, pcmp_eqI, pcmp_neI, pcmp_eqS, pcmp_neS, pcmp_eqB, pcmp_isN, pcmp_isT, pcmp_isS, pcmp_isI, pcmp_isB, pcmp_isnotN, pcmp_isnotT, pcmp_isnotS, seq_tup, pidx_tup, atP_0, atP_1, atP_2, atP_3, SZ_le, SZ_lt, true_implies, false_implies, Bool.true_eq_false, Bool.false_eq_true, and_true, true_and, decide_eq_true_eq, decide_eq_false_iff_not, Bool.not_eq_true', Bool.not_eq_false', Nat.reduceLeDiff, Nat.reduceAdd, Nat.zero_le, Bool.not_true, Bool.not_false, c1]
      · refine wS_nil (wS_nil ⟨_, _, _, rfl, rfl, fun z => ?_⟩)
        have h1 := hpj z
        have : pre2.length ≠ j := fun y => by
          rw [z, hk] at hd'
          cases hd'
          rw [y, hj] at hm'
          cases hm'
          exact c rfl
        rw [List.length_append, List.length_singleton]; omega
    · rintro σ h' ⟨a4, a5, a6, rfl, rfl, hpj⟩
      refine wS_nil ⟨_, _, _, _, _, rfl, rfl, ?_⟩
      have : pre.length ≠ k := fun z => by
        have h1 := hpj z
        rw [List.length_zipIdx] at h1
        rw [z, hk] at hd'
        cases hd'
        have := (List.getElem?_eq_some_iff.mp hj).1
        omega
      rw [List.length_append, List.length_singleton]; omega
  · rintro σ h ⟨a2, a3, a4, a5, a6, rfl, rfl, hpk⟩
    have := (List.getElem?_eq_some_iff.mp hk).1
    omega
/-! the same -/
def good : Nat → PV → Prop
  | _, .str _ => True
  | _, .int _ => True
  | _, .bl _ => True
  | _, .non => True
  | d + 1, .tup xs => xs.length ≤ 1000 ∧ ∀ x ∈ xs, good d x
  | _, _ => False
theorem same_ok : ∀ (d N : Nat) (v : PV) (h : AH), good d v → d + 1 ≤ N → wC (callF P N) 21 [v, v] h (fun r h' => r = .bl true ∧ h' = h)
  | d, 0, _, _, _, hN => absurd hN (by omega)
  | d, N + 1, v, h, g, hN => by
    refine wC_of (d := ⟨2, 3, b21⟩) rfl rfl ?_
    show wS P _ b21 [some v, some v, none] h _ _
    refine wS_cons (wS_cond ?_)
    cases v with
    | str s =>
      simp only [wE_var, wE_non, wE_bl, wE_int, wE_str, wE_tup, wE_lst, wE_bin, wE_cmp, wE_and, wE_or, wE_not, wE_ite, wE_idx, wE_call, wE_bi, wE_mt, wL_nil, wL_cons, wR_some, wV_some, wB_some, wG_some, wX_some, wT_bl, wT_int, wT_non, wT_tup, bindP, bindPs, wipeP, List.getElem?_cons_zero, List.getElem?_cons_succ, List.set_cons_zero, List.set_cons_succ, List.length_cons, List.length_nil, pbin_add, pbin_sub, pbi_int, pbi_lenT, pbi_tupT, isTup_tup, isTup_str, isTup_int, isTup_bl, isTup_non, isBl_bl, isBl_int, isBl_str, isInt_int, isInt_str, isStr_str, pcmp_lt, pcmp_le, pcmp_gt, pcmp_ge, pcmp_eqI, pcmp_neI, pcmp_eqS, pcmp_neS, pcmp_eqB, pcmp_isN, pcmp_isT, pcmp_isS, pcmp_isI, pcmp_isB, pcmp_isnotN, pcmp_isnotT, pcmp_isnotS, seq_tup, pidx_tup, atP_0, atP_1, atP_2, atP_3, SZ_le, SZ_lt, true_implies, false_implies, Bool.true_eq_false, Bool.false_eq_true, and_true, true_and, decide_eq_true_eq, decide_eq_false_iff_not, Bool.not_eq_true', Bool.not_eq_false', Nat.reduceLeDiff, Nat.reduceAdd, Nat.zero_le, Bool.not_true, Bool.not_false]
      refine wS_nil (wS_cons (wS_cond ?_))
      simp only [wE_var, wE_non, wE_bl, wE_int, wE_str, wE_tup, wE_lst, wE_bin, wE_cmp, wE_and, wE_or, wE_not, wE_ite, wE_idx, wE_call, wE_bi, wE_mt, wL_nil, wL_cons, wR_some, wV_some, wB_some, wG_some, wX_some, wT_bl, wT_int, wT_non, wT_tup, bindP, bindPs, wipeP, List.getElem?_cons_zero, List.getElem?_cons_succ, List.set_cons_zero, List.set_cons_succ, List.length_cons, List.length_nil, pbin_add, pbin_sub, pbi_int, pbi_lenT, pbi_tupT, isTup_tup, isTup_str, isTup_int, isTup_bl, isTup_non, isBl_bl, isBl_int, isBl_str, isInt_int, isInt_str, isStr_str, pcmp_lt, pcmp_le, pcmp_gt, pcmp_ge, pcmp_eqI, pcmp_neI, pcmp_eqS, pcmp_neS, pcmp_eqB, pcmp_isN, pcmp_isT, pcmp_isS, pcmp_isI, pcmp_isB, pcmp_isnotN, pcmp_isnotT, pcmp_isnotS, seq_tup, pidx_tup, atP_0, atP_1, atP_2, atP_3, SZ_le, SZ_lt, true_implies, false_implies, Bool.true_eq_false, Bool.false_eq_true, and_true, true_and, decide_eq_true_eq, decide_eq_false_iff_not, Bool.not_eq_true', Bool.not_eq_false', Nat.reduceLeDiff, Nat.reduceAdd, Nat.zero_le, Bool.not_true, Bool.not_false]
      refine wS_nil (wS_cons (wS_cond ?_))
      simp only [wE_var, wE_non, wE_bl, wE_int, wE_str, wE_tup, wE_lst, wE_bin, wE_cmp, wE_and, wE_or, wE_not, wE_ite, wE_idx, wE_call, wE_bi, wE_mt, wL_nil, wL_cons, wR_some, wV_some, wB_some, wG_some, wX_some, wT_bl, wT_int, wT_non, wT_tup, bindP, bindPs, wipeP, List.getElem?_cons_zero, List.getElem?_cons_succ, List.set_cons_zero, List.set_cons_succ, List.length_cons, List.length_nil, pbin_add, pbin_sub, pbi_int, pbi_lenT, pbi_tupT, isTup_tup, isTup_str, isTup_int, isTup_bl, isTup_non, isBl_bl, isBl_int, isBl_str, isInt_int, isInt_str, isStr_str, pcmp_lt, pcmp_le, pcmp_gt, pcmp_ge, pcmp_eqI, pcmp_neI, pcmp_eqS, pcmp_neS, pcmp_eqB, pcmp_isN, pcmp_isT, pcmp_isS, pcmp_isI, pcmp_isB, pcmp_isnotN, pcmp_isnotT, pcmp_isnotS, seq_tup, pidx_tup, atP_0, atP_1, atP_2, atP_3, SZ_le, SZ_lt, true_implies, false_implies, Bool.true_eq_false, Bool.false_eq_true, and_true, true_and, decide_eq_true_eq, decide_eq_false_iff_not, Bool.not_eq_true', Bool.not_eq_false', Nat.reduceLeDiff, Nat.reduceAdd, Nat.zero_le, Bool.not_true, Bool.not_false]
      refine wS_nil (wS_cons (wS_cond ?_))
      simp only [wE_var, wE_non, wE_bl, wE_int, wE_str, wE_tup, wE_lst, wE_bin, wE_cmp, wE_and, wE_or, wE_not, wE_ite, wE_idx, wE_call, wE_bi, wE_mt, wL_nil, wL_cons, wR_some, wV_some, wB_some, wG_some, wX_some, wT_bl, wT_int, wT_non, wT_tup, bindP, bindPs, wipeP, List.getElem?_cons_zero, List.getElem?_cons_succ, List.set_cons_zero, List.set_cons_succ, List.length_cons, List.length_nil, pbin_add, pbin_sub, pbi_int, pbi_lenT, pbi_tupT, isTup_tup, isTup_str, isTup_int, isTup_bl, isTup_non, isBl_bl, isBl_int, isBl_str, isInt_int, isInt_str, isStr_str, pcmp_lt, pcmp_le, pcmp_gt, pcmp_ge, pcmp_eqI, pcmp_neI, pcmp_eqS, pcmp_neS, pcmp_eqB, pcmp_isN, pcmp_isT, pcmp_isS, pcmp_isI, pcmp_isB, pcmp_isnotN, pcmp_isnotT, pcmp_isnotS, seq_tup, pidx_tup, atP_0, atP_1, atP_2, atP_3, SZ_le, SZ_lt, true_implies, false_implies, Bool.true_eq_false, Bool.false_eq_true, and_true, true_and, decide_eq_true_eq, decide_eq_false_iff_not, Bool.not_eq_true', Bool.not_eq_false', Nat.reduceLeDiff, Nat.reduceAdd, Nat.zero_le, Bool.not_true, Bool.not_false]
      refine wS_nil (wS_cons (wS_ret ?_))
      simp only [wE_var, wE_non, wE_bl, wE_int, wE_str, wE_tup, wE_lst, wE_bin, wE_cmp, wE_and, wE_or, wE_not, wE_ite, wE_idx, wE_call, wE_bi, wE_mt, wL_nil, wL_cons, wR_some, wV_some, wB_some, wG_some, wX_some, wT_bl, wT_int, wT_non, wT_tup, bindP, bindPs, wipeP, List.getElem?_cons_zero, List.getElem?_cons_succ, List.set_cons_zero, List.set_cons_succ, List.length_cons, List.length_nil, pbin_add, pbin_sub, pbi_int, pbi_lenT, pbi_tupT, isTup_tup, isTup_str, isTup_int, isTup_bl, isTup_non, isBl_bl, isBl_int, isBl_str, isInt_int, isInt_str, isStr_str, pcmp_lt, pcmp_le, pcmp_gt, pcmp_ge, pcmp_eqI, pcmp_neI, pcmp_eqS, pcmp_neS, pcmp_eqB, pcmp_isN, pcmp_isT, pcmp_isS, pcmp_isI, pcmp_isB, pcmp_isnotN, pcmp_isnotT, pcmp_isnotS, seq_tup, pidx_tup, atP_0, atP_1, atP_2, atP_3, SZ_le, SZ_lt, true_implies, false_implies, Bool.true_eq_false, Bool.false_eq_true, and_true, true_and, decide_eq_true_eq, decide_eq_false_iff_not, Bool.not_eq_true', Bool.not_eq_false', Nat.reduceLeDiff, Nat.reduceAdd, Nat.zero_le, Bool.not_true, Bool.not_false]
      simp
    | int i =>
      simp only [wE_var, wE_non, wE_bl, wE_int, wE_str, wE_tup, wE_lst, wE_bin, wE_cmp, wE_and, wE_or, wE_not, wE_ite, wE_idx, wE_call, wE_bi, wE_mt, wL_nil, wL_cons, wR_some, wV_some, wB_some, wG_some, wX_some, wT_bl, wT_int, wT_non, wT_tup, bindP, bindPs, wipeP, List.getElem?_cons_zero, List.getElem?_cons_succ, List.set_cons_zero, List.set_cons_succ, List.length_cons, List.length_nil, pbin_add, pbin_sub, pbi_int, pbi_lenT, pbi_tupT, isTup_tup, isTup_str, isTup_int, isTup_bl, isTup_non, isBl_bl, isBl_int, isBl_str, isInt_int, isInt_str, isStr_str, pcmp_lt, pcmp_le, pcmp_gt, pcmp_ge, pcmp_eqI, pcmp_neI, pcmp_eqS, pcmp_neS, pcmp_eqB, pcmp_isN, pcmp_isT, pcmp_isS, pcmp_isI, pcmp_isB, pcmp_isnotN, pcmp_isnotT, pcmp_isnotS, seq_tup, pidx_tup, atP_0, atP_1, atP_2, atP_3, SZ_le, SZ_lt, true_implies, false_implies, Bool.true_eq_false, Bool.false_eq_true, and_true, true_and, decide_eq_true_eq, decide_eq_false_iff_not, Bool.not_eq_true', Bool.not_eq_false', Nat.reduceLeDiff, Nat.reduceAdd, Nat.zero_le, Bool.not_true, Bool.not_false]
      refine wS_nil (wS_cons (wS_cond ?_))
      simp only [wE_var, wE_non, wE_bl, wE_int, wE_str, wE_tup, wE_lst, wE_bin, wE_cmp, wE_and, wE_or, wE_not, wE_ite, wE_idx, wE_call, wE_bi, wE_mt, wL_nil, wL_cons, wR_some, wV_some, wB_some, wG_some, wX_some, wT_bl, wT_int, wT_non, wT_tup, bindP, bindPs, wipeP, List.getElem?_cons_zero, List.getElem?_cons_succ, List.set_cons_zero, List.set_cons_succ, List.length_cons, List.length_nil, pbin_add, pbin_sub, pbi_int, pbi_lenT, pbi_tupT, isTup_tup, isTup_str, isTup_int, isTup_bl, isTup_non, isBl_bl, isBl_int, isBl_str, isInt_int, isInt_str, isStr_str, pcmp_lt, pcmp_le, pcmp_gt, pcmp_ge, pcmp_eqI, pcmp_neI, pcmp_eqS, pcmp_neS, pcmp_eqB, pcmp_isN, pcmp_isT, pcmp_isS, pcmp_isI, pcmp_isB, pcmp_isnotN, pcmp_isnotT, pcmp_isnotS, seq_tup, pidx_tup, atP_0, atP_1, atP_2, atP_3, SZ_le, SZ_lt, true_implies, false_implies, Bool.true_eq_false, Bool.false_eq_true, and_true, true_and, decide_eq_true_eq, decide_eq_false_iff_not, Bool.not_eq_true', Bool.not_eq_false', Nat.reduceLeDiff, Nat.reduceAdd, Nat.zero_le, Bool.not_true, Bool.not_false]
      refine wS_nil (wS_cons (wS_cond ?_))
      simp only [wE_var, wE_non, wE_bl, wE_int, wE_str, wE_tup, wE_lst, wE_bin, wE_cmp, wE_and, wE_or, wE_not, wE_ite, wE_idx, wE_call, wE_bi, wE_mt, wL_nil, wL_cons, wR_some, wV_some, wB_some, wG_some, wX_some, wT_bl, wT_int, wT_non, wT_tup, bindP, bindPs, wipeP, List.getElem?_cons_zero, List.getElem?_cons_succ, List.set_cons_zero, List.set_cons_succ, List.length_cons, List.length_nil, pbin_add, pbin_sub, pbi_int, pbi_lenT, pbi_tupT, isTup_tup, isTup_str, isTup_int, isTup_bl, isTup_non, isBl_bl, isBl_int, isBl_str, isInt_int, isInt_str, isStr_str, pcmp_lt, pcmp_le, pcmp_gt, pcmp_ge, pcmp_eqI, pcmp_neI, pcmp_eqS, pcmp_neS, pcmp_eqB, pcmp_isN, pcmp_isT, pcmp_isS, pcmp_isI, pcmp_isB, pcmp_isnotN, pcmp_isnotT, pcmp_isnotS, seq_tup, pidx_tup, atP_0, atP_1, atP_2, atP_3, SZ_le, SZ_lt, true_implies, false_implies, Bool.true_eq_false, Bool.false_eq_true, and_true, true_and, decide_eq_true_eq, decide_eq_false_iff_not, Bool.not_eq_true', Bool.not_eq_false', Nat.reduceLeDiff, Nat.reduceAdd, Nat.zero_le, Bool.not_true, Bool.not_false]
      refine wS_nil (wS_cons (wS_cond ?_))
      simp only [wE_var, wE_non, wE_bl, wE_int, wE_str, wE_tup, wE_lst, wE_bin, wE_cmp, wE_and, wE_or, wE_not, wE_ite, wE_idx, wE_call, wE_bi, wE_mt, wL_nil, wL_cons, wR_some, wV_some, wB_some, wG_some, wX_some, wT_bl, wT_int, wT_non, wT_tup, bindP, bindPs, wipeP, List.getElem?_cons_zero, List.getElem?_cons_succ, List.set_cons_zero, List.set_cons_succ, List.length_cons, List.length_nil, pbin_add, pbin_sub, pbi_int, pbi_lenT, pbi_tupT, isTup_tup, isTup_str, isTup_int, isTup_bl, isTup_non, isBl_bl, isBl_int, isBl_str, isInt_int, isInt_str, isStr_str, pcmp_lt, pcmp_le, pcmp_gt, pcmp_ge, pcmp_eqI, pcmp_neI, pcmp_eqS, pcmp_neS, pcmp_eqB, pcmp_isN, pcmp_isT, pcmp_isS, pcmp_isI, pcmp_isB, pcmp_isnotN, pcmp_isnotT, pcmp_isnotS, seq_tup, pidx_tup, atP_0, atP_1, atP_2, atP_3, SZ_le, SZ_lt, true_implies, false_implies, Bool.true_eq_false, Bool.false_eq_true, and_true, true_and, decide_eq_true_eq, decide_eq_false_iff_not, Bool.not_eq_true', Bool.not_eq_false', Nat.reduceLeDiff, Nat.reduceAdd, Nat.zero_le, Bool.not_true, Bool.not_false]
      refine wS_cons (wS_ret ?_)
      simp only [wE_var, wE_non, wE_bl, wE_int, wE_str, wE_tup, wE_lst, wE_bin, wE_cmp, wE_and, wE_or, wE_not, wE_ite, wE_idx, wE_call, wE_bi, wE_mt, wL_nil, wL_cons, wR_some, wV_some, wB_some, wG_some, wX_some, wT_bl, wT_int, wT_non, wT_tup, bindP, bindPs, wipeP, List.getElem?_cons_zero, List.getElem?_cons_succ, List.set_cons_zero, List.set_cons_succ, List.length_cons, List.length_nil, pbin_add, pbin_sub, pbi_int, pbi_lenT, pbi_tupT, isTup_tup, isTup_str, isTup_int, isTup_bl, isTup_non, isBl_bl, isBl_int, isBl_str, isInt_int, isInt_str, isStr_str, pcmp_lt, pcmp_le, pcmp_gt, pcmp_ge, pcmp_eqI, pcmp_neI, pcmp_eqS, pcmp_neS, pcmp_eqB, pcmp_isN, pcmp_isT, pcmp_isS, pcmp_isI, pcmp_isB, pcmp_isnotN, pcmp_isnotT, pcmp_isnotS, seq_tup, pidx_tup, atP_0, atP_1, atP_2, atP_3, SZ_le, SZ_lt, true_implies, false_implies, Bool.true_eq_false, Bool.false_eq_true, and_true, true_and, decide_eq_true_eq, decide_eq_false_iff_not, Bool.not_eq_true', Bool.not_eq_false', Nat.reduceLeDiff, Nat.reduceAdd, Nat.zero_le, Bool.not_true, Bool.not_false]
      simp
    | bl b =>
      simp only [wE_var, wE_non, wE_bl, wE_int, wE_str, wE_tup, wE_lst, wE_bin, wE_cmp, wE_and, wE_or, wE_not, wE_ite, wE_idx, wE_call, wE_bi, wE_mt, wL_nil, wL_cons, wR_some, wV_some, wB_some, wG_some, wX_some, wT_bl, wT_int, wT_non, wT_tup, bindP, bindPs, wipeP, List.getElem?_cons_zero, List.getElem?_cons_succ, List.set_cons_zero, List.set_cons_succ, List.length_cons, List.length_nil, pbin_add, pbin_sub, pbi_int, pbi_lenT, pbi_tupT, isTup_tup, isTup_str, isTup_int, isTup_bl, isTup_non, isBl_bl, isBl_int, isBl_str, isInt_int, isInt_str, isStr_str, pcmp_lt, pcmp_le, pcmp_gt, pcmp_ge, pcmp_eqI, pcmp_neI, pcmp_eqS, pcmp_neS, pcmp_eqB, pcmp_isN, pcmp_isT, pcmp_isS, pcmp_isI, pcmp_isB, pcmp_isnotN, pcmp_isnotT, pcmp_isnotS, seq_tup, pidx_tup, atP_0, atP_1, atP_2, atP_3, SZ_le, SZ_lt, true_implies, false_implies, Bool.true_eq_false, Bool.false_eq_true, and_true, true_and, decide_eq_true_eq, decide_eq_false_iff_not, Bool.not_eq_true', Bool.not_eq_false', Nat.reduceLeDiff, Nat.reduceAdd, Nat.zero_le, Bool.not_true, Bool.not_false]
      refine wS_nil (wS_cons (wS_cond ?_))
      simp only [wE_var, wE_non, wE_bl, wE_int, wE_str, wE_tup, wE_lst, wE_bin, wE_cmp, wE_and, wE_or, wE_not, wE_ite, wE_idx, wE_call, wE_bi, wE_mt, wL_nil, wL_cons, wR_some, wV_some, wB_some, wG_some, wX_some, wT_bl, wT_int, wT_non, wT_tup, bindP, bindPs, wipeP, List.getElem?_cons_zero, List.getElem?_cons_succ, List.set_cons_zero, List.set_cons_succ, List.length_cons, List.length_nil, pbin_add, pbin_sub, pbi_int, pbi_lenT, pbi_tupT, isTup_tup, isTup_str, isTup_int, isTup_bl, isTup_non, isBl_bl, isBl_int, isBl_str, isInt_int, isInt_str, isStr_str, pcmp_lt, pcmp_le, pcmp_gt, pcmp_ge, pcmp_eqI, pcmp_neI, pcmp_eqS, pcmp_neS, pcmp_eqB, pcmp_isN, pcmp_isT, pcmp_isS, pcmp_isI, pcmp_isB, pcmp_isnotN, pcmp_isnotT, pcmp_isnotS, seq_tup, pidx_tup, atP_0, atP_1, atP_2, atP_3, SZ_le, SZ_lt, true_implies, false_implies, Bool.true_eq_false, Bool.false_eq_true, and_true, true_and, decide_eq_true_eq, decide_eq_false_iff_not, Bool.not_eq_true', Bool.not_eq_false', Nat.reduceLeDiff, Nat.reduceAdd, Nat.zero_le, Bool.not_true, Bool.not_false]
      refine wS_nil (wS_cons (wS_cond ?_))
      simp only [wE_var, wE_non, wE_bl, wE_int, wE_str, wE_tup, wE_lst, wE_bin, wE_cmp, wE_and, wE_or, wE_not, wE_ite, wE_idx, wE_call, wE_bi, wE_mt, wL_nil, wL_cons, wR_some, wV_some, wB_some, wG_some, wX_some, wT_bl, wT_int, wT_non, wT_tup, bindP, bindPs, wipeP, List.getElem?_cons_zero, List.getElem?_cons_succ, List.set_cons_zero, List.set_cons_succ, List.length_cons, List.length_nil, pbin_add, pbin_sub, pbi_int, pbi_lenT, pbi_tupT, isTup_tup, isTup_str, isTup_int, isTup_bl, isTup_non, isBl_bl, isBl_int, isBl_str, isInt_int, isInt_str, isStr_str, pcmp_lt, pcmp_le, pcmp_gt, pcmp_ge, pcmp_eqI, pcmp_neI, pcmp_eqS, pcmp_neS, pcmp_eqB, pcmp_isN, pcmp_isT, pcmp_isS, pcmp_isI, pcmp_isB, pcmp_isnotN, pcmp_isnotT, pcmp_isnotS, seq_tup, pidx_tup, atP_0, atP_1, atP_2, atP_3, SZ_le, SZ_lt, true_implies, false_implies, Bool.true_eq_false, Bool.false_eq_true, and_true, true_and, decide_eq_true_eq, decide_eq_false_iff_not, Bool.not_eq_true', Bool.not_eq_false', Nat.reduceLeDiff, Nat.reduceAdd, Nat.zero_le, Bool.not_true, Bool.not_false]
      refine wS_cons (wS_ret ?_)
      simp only [wE_var, wE_non, wE_bl, wE_int, wE_str, wE_tup, wE_lst, wE_bin, wE_cmp, wE_and, wE_or, wE_not, wE_ite, wE_idx, wE_call, wE_bi, wE_mt, wL_nil, wL_cons, wR_some, wV_some, wB_some, wG_some, wX_some, wT_bl, wT_int, wT_non, wT_tup, bindP, bindPs, wipeP, List.getElem?_cons_zero, List.getElem?_cons_succ, List.set_cons_zero, List.set_cons_succ, List.length_cons, List.length_nil, pbin_add, pbin_sub, pbi_int, pbi_lenT, pbi_tupT, isTup_tup, isTup_str, isTup_int, isTup_bl, isTup_non, isBl_bl, isBl_int, isBl_str, isInt_int, isInt_str, isStr_str, pcmp_lt, pcmp_le, pcmp_gt, pcmp_ge, pcmp_eqI, pcmp_neI, pcmp_eqS, pcmp_neS, pcmp_eqB, pcmp_isN, pcmp_isT, pcmp_isS, pcmp_isI, pcmp_isB, pcmp_isnotN, pcmp_isnotT, pcmp_isnotS, seq_tup, pidx_tup, atP_0, atP_1, atP_2, atP_3, SZ_le, SZ_lt, true_implies, false_implies, Bool.true_eq_false, Bool.false_eq_true, and_true, true_and, decide_eq_true_eq, decide_eq_false_iff_not, Bool.not_eq_true', Bool.not_eq_false', Nat.reduceLeDiff, Nat.reduceAdd, Nat.zero_le, Bool.not_true, Bool.not_false]
      simp
    | non =>
      simp only [wE_var, wE_non, wE_bl, wE_int, wE_str, wE_tup, wE_lst, wE_bin, wE_cmp, wE_and, wE_or, wE_not, wE_ite, wE_idx, wE_call, wE_bi, wE_mt, wL_nil, wL_cons, wR_some, wV_some, wB_some, wG_some, wX_some, wT_bl, wT_int, wT_non, wT_tup, bindP, bindPs, wipeP, List.getElem?_cons_zero, List.getElem?_cons_succ, List.set_cons_zero, List.set_cons_succ, List.length_cons, List.length_nil, pbin_add, pbin_sub, pbi_int, pbi_lenT, pbi_tupT, isTup_tup, isTup_str, isTup_int, isTup_bl, isTup_non, isBl_bl, isBl_int, isBl_str, isInt_int, isInt_str, isStr_str, pcmp_lt, pcmp_le, pcmp_gt, pcmp_ge, pcmp_eqI, pcmp_neI, pcmp_eqS, pcmp_neS, pcmp_eqB, pcmp_isN, pcmp_isT, pcmp_isS, pcmp_isI, pcmp_isB, pcmp_isnotN, pcmp_isnotT, pcmp_isnotS, seq_tup, pidx_tup, atP_0, atP_1, atP_2, atP_3, SZ_le, SZ_lt, true_implies, false_implies, Bool.true_eq_false, Bool.false_eq_true, and_true, true_and, decide_eq_true_eq, decide_eq_false_iff_not, Bool.not_eq_true', Bool.not_eq_false', Nat.reduceLeDiff, Nat.reduceAdd, Nat.zero_le, Bool.not_true, Bool.not_false]
      refine wS_nil (wS_cons (wS_cond ?_))
      simp only [wE_var, wE_non, wE_bl, wE_int, wE_str, wE_tup, wE_lst, wE_bin, wE_cmp, wE_and, wE_or, wE_not, wE_ite, wE_idx, wE_call, wE_bi, wE_mt, wL_nil, wL_cons, wR_some, wV_some, wB_some, wG_some, wX_some, wT_bl, wT_int, wT_non, wT_tup, bindP, bindPs, wipeP, List.getElem?_cons_zero, List.getElem?_cons_succ, List.set_cons_zero, List.set_cons_succ, List.length_cons, List.length_nil, pbin_add, pbin_sub, pbi_int, pbi_lenT, pbi_tupT, isTup_tup, isTup_str, isTup_int, isTup_bl, isTup_non, isBl_bl, isBl_int, isBl_str, isInt_int, isInt_str, isStr_str, pcmp_lt, pcmp_le, pcmp_gt, pcmp_ge, pcmp_eqI, pcmp_neI, pcmp_eqS, pcmp_neS, pcmp_eqB, pcmp_isN, pcmp_isT, pcmp_isS, pcmp_isI, pcmp_isB, pcmp_isnotN, pcmp_isnotT, pcmp_isnotS, seq_tup, pidx_tup, atP_0, atP_1, atP_2, atP_3, SZ_le, SZ_lt, true_implies, false_implies, Bool.true_eq_false, Bool.false_eq_true, and_true, true_and, decide_eq_true_eq, decide_eq_false_iff_not, Bool.not_eq_true', Bool.not_eq_false', Nat.reduceLeDiff, Nat.reduceAdd, Nat.zero_le, Bool.not_true, Bool.not_false]
      refine wS_cons (wS_ret ?_)
      simp only [wE_var, wE_non, wE_bl, wE_int, wE_str, wE_tup, wE_lst, wE_bin, wE_cmp, wE_and, wE_or, wE_not, wE_ite, wE_idx, wE_call, wE_bi, wE_mt, wL_nil, wL_cons, wR_some, wV_some, wB_some, wG_some, wX_some, wT_bl, wT_int, wT_non, wT_tup, bindP, bindPs, wipeP, List.getElem?_cons_zero, List.getElem?_cons_succ, List.set_cons_zero, List.set_cons_succ, List.length_cons, List.length_nil, pbin_add, pbin_sub, pbi_int, pbi_lenT, pbi_tupT, isTup_tup, isTup_str, isTup_int, isTup_bl, isTup_non, isBl_bl, isBl_int, isBl_str, isInt_int, isInt_str, isStr_str, pcmp_lt, pcmp_le, pcmp_gt, pcmp_ge, pcmp_eqI, pcmp_neI, pcmp_eqS, pcmp_neS, pcmp_eqB, pcmp_isN, pcmp_isT, pcmp_isS, pcmp_isI, pcmp_isB, pcmp_isnotN, pcmp_isnotT, pcmp_isnotS, seq_tup, pidx_tup, atP_0, atP_1, atP_2, atP_3, SZ_le, SZ_lt, true_implies, false_implies, Bool.true_eq_false, Bool.false_eq_true, and_true, true_and, decide_eq_true_eq, decide_eq_false_iff_not, Bool.not_eq_true', Bool.not_eq_false', Nat.reduceLeDiff, Nat.reduceAdd, Nat.zero_le, Bool.not_true, Bool.not_false]
    | tup xs =>
      cases d with
      | zero => exact False.elim (by cases g)
      | succ d =>
        obtain ⟨hl, hg⟩ : xs.length ≤ 1000 ∧ ∀ x ∈ xs, good d x := g
        simp only [wE_var, wE_non, wE_bl, wE_int, wE_str, wE_tup, wE_lst, wE_bin, wE_cmp, wE_and, wE_or, wE_not, wE_ite, wE_idx, wE_call, wE_bi, wE_mt, wL_nil, wL_cons, wR_some, wV_some, wB_some, wG_some, wX_some, wT_bl, wT_int, wT_non, wT_tup, bindP, bindPs, wipeP, List.getElem?_cons_zero, List.getElem?_cons_succ, List.set_cons_zero, List.set_cons_succ, List.length_cons, List.length_nil, pbin_add, pbin_sub, pbi_int, pbi_lenT, pbi_tupT, isTup_tup, isTup_str, isTup_int, isTup_bl, isTup_non, isBl_bl, isBl_int, isBl_str, isInt_int, isInt_str, isStr_str, pcmp_lt, pcmp_le, pcmp_gt, pcmp_ge, pcmp_eqI, pcmp_neI, pcmp_eqS, pcmp_neS, pcmp_eqB, pcmp_isN, pcmp_isT, pcmp_isS, pcmp_isI, pcmp_isB, pcmp_isnotN, pcmp_isnotT, pcmp_isnotS, seq_tup, pidx_tup, atP_0, atP_1, atP_2, atP_3, SZ_le, SZ_lt, true_implies, false_implies, Bool.true_eq_false, Bool.false_eq_true, and_true, true_and, decide_eq_true_eq, decide_eq_false_iff_not, Bool.not_eq_true', Bool.not_eq_false', Nat.reduceLeDiff, Nat.reduceAdd, Nat.zero_le, Bool.not_true, Bool.not_false]
        refine wS_cons (wS_cond ?_)
        simp only [wE_var, wE_non, wE_bl, wE_int, wE_str, wE_tup, wE_lst, wE_bin, wE_cmp, wE_and, wE_or, wE_not, wE_ite, wE_idx, wE_call, wE_bi, wE_mt, wL_nil, wL_cons, wR_some, wV_some, wB_some, wG_some, wX_some, wT_bl, wT_int, wT_non, wT_tup, bindP, bindPs, wipeP, List.getElem?_cons_zero, List.getElem?_cons_succ, List.set_cons_zero, List.set_cons_succ, List.length_cons, List.length_nil, pbin_add, pbin_sub, pbi_int, pbi_lenT, pbi_tupT, isTup_tup, isTup_str, isTup_int, isTup_bl, isTup_non, isBl_bl, isBl_int, isBl_str, isInt_int, isInt_str, isStr_str, pcmp_lt, pcmp_le, pcmp_gt, pcmp_ge, pcmp_eqI, pcmp_neI, pcmp_eqS, pcmp_neS, pcmp_eqB, pcmp_isN, pcmp_isT, pcmp_isS, pcmp_isI, pcmp_isB, pcmp_isnotN, pcmp_isnotT, pcmp_isnotS, seq_tup, pidx_tup, atP_0, atP_1, atP_2, atP_3, SZ_le, SZ_lt, true_implies, false_implies, Bool.true_eq_false, Bool.false_eq_true, and_true, true_and, decide_eq_true_eq, decide_eq_false_iff_not, Bool.not_eq_true', Bool.not_eq_false', Nat.reduceLeDiff, Nat.reduceAdd, Nat.zero_le, Bool.not_true, Bool.not_false, decide_true]
        refine wS_nil (wS_cons (wS_for (List.range xs.length) (fun k : Nat => PV.int k) (fun _ => True) (fun pre σ h' => ∃ (a2 : Option PV), σ = [some (.tup xs), some (.tup xs), a2] ∧ h' = h) ?_ (fun _ _ _ _ => trivial) ?_ ?_))
        · refine wI_range1 ?_
          simp only [wE_var, wE_non, wE_bl, wE_int, wE_str, wE_tup, wE_lst, wE_bin, wE_cmp, wE_and, wE_or, wE_not, wE_ite, wE_idx, wE_call, wE_bi, wE_mt, wL_nil, wL_cons, wR_some, wV_some, wB_some, wG_some, wX_some, wT_bl, wT_int, wT_non, wT_tup, bindP, bindPs, wipeP, List.getElem?_cons_zero, List.getElem?_cons_succ, List.set_cons_zero, List.set_cons_succ, List.length_cons, List.length_nil, pbin_add, pbin_sub, pbi_int, pbi_lenT, pbi_tupT, isTup_tup, isTup_str, isTup_int, isTup_bl, isTup_non, isBl_bl, isBl_int, isBl_str, isInt_int, isInt_str, isStr_str, pcmp_lt, pcmp_le, pcmp_gt, pcmp_ge, pcmp_eqI, pcmp_neI, pcmp_eqS, pcmp_neS, pcmp_eqB, pcmp_isN, pcmp_isT, pcmp_isS, pcmp_isI, pcmp_isB, pcmp_isnotN, pcmp_isnotT, pcmp_isnotS, seq_tup, pidx_tup, atP_0, atP_1, atP_2, atP_3, SZ_le, SZ_lt, true_implies, false_implies, Bool.true_eq_false, Bool.false_eq_true, and_true, true_and, decide_eq_true_eq, decide_eq_false_iff_not, Bool.not_eq_true', Bool.not_eq_false', Nat.reduceLeDiff, Nat.reduceAdd, Nat.zero_le, Bool.not_true, Bool.not_false]
          exact ⟨_, rfl, by omega, .inl (by rw [Int.toNat_natCast]), _, rfl⟩
        · rintro pre k post e σ h' ⟨a2, rfl, rfl⟩
          obtain ⟨rfl, hk⟩ := range_split e
          refine ⟨_, rfl, ?_⟩
          show wS P _ _ [some (.tup xs), some (.tup xs), some (.int (pre.length : Int))] h' _ _
          refine wS_cons (wS_cond ?_)
          have e1 : atP xs (pre.length : Int) = some xs[pre.length] := atP_nat (List.getElem?_eq_getElem hk)
          simp only [wE_var, wE_non, wE_bl, wE_int, wE_str, wE_tup, wE_lst, wE_bin, wE_cmp, wE_and, wE_or, wE_not, wE_ite, wE_idx, wE_call, wE_bi, wE_mt, wL_nil, wL_cons, wR_some, wV_some, wB_some, wG_some, wX_some, wT_bl, wT_int, wT_non, wT_tup, bindP, bindPs, wipeP, List.getElem?_cons_zero, List.getElem?_cons_succ, List.set_cons_zero, List.set_cons_succ, List.length_cons, List.length_nil, pbin_add, pbin_sub, pbi_int, pbi_lenT, pbi_tupT, isTup_tup, isTup_str, isTup_int, isTup_bl, isTup_non, isBl_bl, isBl_int, isBl_str, isInt_int, isInt_str, isStr_str, pcmp_lt, pcmp_le, pcmp_gt, pcmp_ge, pcmp_eqI, pcmp_neI, pcmp_eqS, pcmp_neS, pcmp_eqB, pcmp_isN, pcmp_isT, pcmp_isS, pcmp_isI, pcmp_isB, pcmp_isnotN, pcmp_isnotT, pcmp_isnotS, seq_tup, pidx_tup, atP_0, atP_1, atP_2, atP_3, SZ_le, SZ_lt, true_implies, false_implies, Bool.true_eq_false, Bool.false_eq_true, and_true, true_and, decide_eq_true_eq, decide_eq_false_iff_not, Bool.not_eq_true', Bool.not_eq_false', Nat.reduceLeDiff, Nat.reduceAdd, Nat.zero_le, Bool.not_true, Bool.not_false, e1]
          refine wC_mono (same_ok d N xs[pre.length] h' (hg _ (List.getElem_mem hk)) (by omega)) fun r h2 ⟨hr, hh⟩ => ?_
          subst hr hh
          simp only [wE_var, wE_non, wE_bl, wE_int, wE_str, wE_tup, wE_lst, wE_bin, wE_cmp, wE_and, wE_or, wE_not, wE_ite, wE_idx, wE_call, wE_bi, wE_mt, wL_nil, wL_cons, wR_some, wV_some, wB_some, wG_some, wX_some, wT_bl, wT_int, wT_non, wT_tup, bindP, bindPs, wipeP, List.getElem?_cons_zero, List.getElem?_cons_succ, List.set_cons_zero, List.set_cons_succ, List.length_cons, List.length_nil, pbin_add, pbin_sub, pbi_int, pbi_lenT, pbi_tupT, isTup_tup, isTup_str, isTup_int, isTup_bl, isTup_non, isBl_bl, isBl_int, isBl_str, isInt_int, isInt_str, isStr_str, pcmp_lt, pcmp_le, pcmp_gt, pcmp_ge, pcmp_eqI, pcmp_neI, pcmp_eqS, pcmp_neS, pcmp_eqB, pcmp_isN, pcmp_isT, pcmp_isS, pcmp_isI, pcmp_isB, pcmp_isnotN, pcmp_isnotT, pcmp_isnotS, seq_tup, pidx_tup, atP_0, atP_1, atP_2, atP_3, SZ_le, SZ_lt, true_implies, false_implies, Bool.true_eq_false, Bool.false_eq_true, and_true, true_and, decide_eq_true_eq, decide_eq_false_iff_not, Bool.not_eq_true', Bool.not_eq_false', Nat.reduceLeDiff, Nat.reduceAdd, Nat.zero_le, Bool.not_true, Bool.not_false]
          exact wS_nil (wS_nil ⟨_, rfl, rfl⟩)
        · rintro σ h' ⟨a2, rfl, rfl⟩
          refine wS_cons (wS_ret ?_)
          simp only [wE_var, wE_non, wE_bl, wE_int, wE_str, wE_tup, wE_lst, wE_bin, wE_cmp, wE_and, wE_or, wE_not, wE_ite, wE_idx, wE_call, wE_bi, wE_mt, wL_nil, wL_cons, wR_some, wV_some, wB_some, wG_some, wX_some, wT_bl, wT_int, wT_non, wT_tup, bindP, bindPs, wipeP, List.getElem?_cons_zero, List.getElem?_cons_succ, List.set_cons_zero, List.set_cons_succ, List.length_cons, List.length_nil, pbin_add, pbin_sub, pbi_int, pbi_lenT, pbi_tupT, isTup_tup, isTup_str, isTup_int, isTup_bl, isTup_non, isBl_bl, isBl_int, isBl_str, isInt_int, isInt_str, isStr_str, pcmp_lt, pcmp_le, pcmp_gt, pcmp_ge, pcmp_eqI, pcmp_neI, pcmp_eqS, pcmp_neS, pcmp_eqB, pcmp_isN, pcmp_isT, pcmp_isS, pcmp_isI, pcmp_isB, pcmp_isnotN, pcmp_isnotT, pcmp_isnotS, seq_tup, pidx_tup, atP_0, atP_1, atP_2, atP_3, SZ_le, SZ_lt, true_implies, false_implies, Bool.true_eq_false, Bool.false_eq_true, and_true, true_and, decide_eq_true_eq, decide_eq_false_iff_not, Bool.not_eq_true', Bool.not_eq_false', Nat.reduceLeDiff, Nat.reduceAdd, Nat.zero_le, Bool.not_true, Bool.not_false]
    | ref l => exact False.elim (by cases d <;> cases g)
    | lis l => exact False.elim (by cases d <;> cases g)
end Mi.K6
set_option Elab.async false
set_option linter.all false
set_option maxRecDepth 100000
set_option maxHeartbeats 4000000
namespace Mi.K6
open Mi
theorem sort_eq {a b : List Sg} (p : a.Perm b) : sortSg a = sortSg b := by
  refine List.Perm.eq_of_pairwise (le := fun a b => sgLe a b = true) (fun a b _ _ h1 h2 => sgLe_anti _ _ h1 h2) (sortSg_pw a) (sortSg_pw b) ?_
  exact (sortSg_perm a).trans (p.trans (sortSg_perm b).symm)
theorem mkrs_len {D : List Dt} (s : Shape D) (k : Sg) : (lookD D k).length ≤ 3 := by
  unfold lookD
  cases q : D.find? (fun d => decide (d.1 = k)) with
  | none => simp
  | some d => exact (s.len d (List.mem_of_find?_eq_some q)).2
theorem flat_len {D : List Dt} (s : Shape D) : ∀ ks : List Sg, (ks.flatMap (mkrs D)).length ≤ 3 * ks.length
  | [] => by simp
  | k :: ks => by
    have h1 := flat_len s ks
    have h2 := mkrs_len s k
    rw [List.flatMap_cons, List.length_append, List.length_cons]
    have : (mkrs D k).length = (lookD D k).length := by unfold mkrs; simp
    omega
/-! reached_makers -/
theorem reached_ok {D : List Dt} {n : Nat} {h0 : AH} {a : Sg} (s : Shape D) (ha : a ∈ uni D) : wC (callF P (n + 2)) 3 [prog D, .str a] h0 (fun v h' => ∃ B : List Sg, B.Nodup ∧ (∀ x, x ∈ B ↔ Reach D a x) ∧ B.length ≤ 6 ∧ v = .tup ((sortSg (B.flatMap (mkrs D))).map .str) ∧ Hx h0 h') := by
  refine wC_of (d := ⟨2, 8, b3⟩) rfl rfl ?_
  show wS P _ b3 [some (prog D), some (.str a), none, none, none, none, none, none] h0 _ _
  refine wS_cons (wS_asg rfl ?_)
  simp only [wE_var, wE_non, wE_bl, wE_int, wE_str, wE_tup, wE_lst, wE_bin, wE_cmp, wE_and, wE_or, wE_not, wE_ite, wE_idx, wE_call, wE_bi, wE_mt, wL_nil, wL_cons, wR_some, wV_some, wB_some, wG_some, wX_some, wT_bl, wT_int, wT_non, wT_tup, bindP, bindPs, wipeP, List.getElem?_cons_zero, List.getElem?_cons_succ, List.set_cons_zero, List.set_cons_succ, List.length_cons, List.length_nil, pbin_add, pbin_sub, pbi_int, pbi_lenT, pbi_tupT, isTup_tup, isTup_str, isTup_int, isTup_bl, isTup_non, isBl_bl, isBl_int, isBl_str, isInt_int, isInt_str, isStr_str, pcmp_lt, pcmp_le, pcmp_gt, pcmp_ge, pcmp_eqI, pcmp_neI, pcmp_eqS, pcmp_neS, pcmp_eqB, pcmp_isN, pcmp_isT, pcmp_isS, pcmp_isI, pcmp_isB, pcmp_isnotN, pcmp_isnotT, pcmp_isnotS, seq_tup, pidx_tup, atP_0, atP_1, atP_2, atP_3, SZ_le, SZ_lt, true_implies, false_implies, Bool.true_eq_false, Bool.false_eq_true, and_true, true_and, decide_eq_true_eq, decide_eq_false_iff_not, Bool.not_eq_true', Bool.not_eq_false', Nat.reduceLeDiff, Nat.reduceAdd, Nat.zero_le, Bool.not_true, Bool.not_false]
  have k0 : Hx h0 (h0 ++ [AO.lst [PV.str a]]) := Hx.refl.app
  have hl0 : (h0 ++ [AO.lst [PV.str a]])[h0.length]? = some (.lst (([a] : List Sg).map .str)) := by simp
  generalize hl : h0.length = l at hl0
  generalize h0 ++ [AO.lst [PV.str a]] = h1 at k0 hl0
  refine wS_cons (wS_asg rfl ?_)
  simp only [wE_var, wE_non, wE_bl, wE_int, wE_str, wE_tup, wE_lst, wE_bin, wE_cmp, wE_and, wE_or, wE_not, wE_ite, wE_idx, wE_call, wE_bi, wE_mt, wL_nil, wL_cons, wR_some, wV_some, wB_some, wG_some, wX_some, wT_bl, wT_int, wT_non, wT_tup, bindP, bindPs, wipeP, List.getElem?_cons_zero, List.getElem?_cons_succ, List.set_cons_zero, List.set_cons_succ, List.length_cons, List.length_nil, pbin_add, pbin_sub, pbi_int, pbi_lenT, pbi_tupT, isTup_tup, isTup_str, isTup_int, isTup_bl, isTup_non, isBl_bl, isBl_int, isBl_str, isInt_int, isInt_str, isStr_str, pcmp_lt, pcmp_le, pcmp_gt, pcmp_ge, pcmp_eqI, pcmp_neI, pcmp_eqS, pcmp_neS, pcmp_eqB, pcmp_isN, pcmp_isT, pcmp_isS, pcmp_isI, pcmp_isB, pcmp_isnotN, pcmp_isnotT, pcmp_isnotS, seq_tup, pidx_tup, atP_0, atP_1, atP_2, atP_3, SZ_le, SZ_lt, true_implies, false_implies, Bool.true_eq_false, Bool.false_eq_true, and_true, true_and, decide_eq_true_eq, decide_eq_false_iff_not, Bool.not_eq_true', Bool.not_eq_false', Nat.reduceLeDiff, Nat.reduceAdd, Nat.zero_le, Bool.not_true, Bool.not_false]
  refine wS_cons (wS_while (fun m σ h => ∃ (a4 a5 a6 : Option PV) (ks : List Sg) (pl : Nat), σ = [some (prog D), some (.str a), some (.ref l), some (.int (pl : Int)), a4, a5, a6, none] ∧ h[l]? = some (.lst (ks.map .str)) ∧ Hx h0 h ∧ BInv D a ks pl ∧ m + pl = 6) 6 ⟨none, none, none, [a], 0, rfl, hl0, k0, BInv.start D a, rfl⟩ (by decide) ?_)
  rintro m σ h ⟨a4, a5, a6, ks, pl, rfl, hk, k, bi, hm⟩
  have hlen := bi.len s ha
  simp only [wE_var, wE_non, wE_bl, wE_int, wE_str, wE_tup, wE_lst, wE_bin, wE_cmp, wE_and, wE_or, wE_not, wE_ite, wE_idx, wE_call, wE_bi, wE_mt, wL_nil, wL_cons, wR_some, wV_some, wB_some, wG_some, wX_some, wT_bl, wT_int, wT_non, wT_tup, bindP, bindPs, wipeP, List.getElem?_cons_zero, List.getElem?_cons_succ, List.set_cons_zero, List.set_cons_succ, List.length_cons, List.length_nil, pbin_add, pbin_sub, pbi_int, pbi_lenT, pbi_tupT, isTup_tup, isTup_str, isTup_int, isTup_bl, isTup_non, isBl_bl, isBl_int, isBl_str, isInt_int, isInt_str, isStr_str, pcmp_lt, pcmp_le, pcmp_gt, pcmp_ge, pcmp_eqI, pcmp_neI, pcmp_eqS, pcmp_neS, pcmp_eqB, pcmp_isN, pcmp_isT, pcmp_isS, pcmp_isI, pcmp_isB, pcmp_isnotN, pcmp_isnotT, pcmp_isnotS, seq_tup, pidx_tup, atP_0, atP_1, atP_2, atP_3, SZ_le, SZ_lt, true_implies, false_implies, Bool.true_eq_false, Bool.false_eq_true, and_true, true_and, decide_eq_true_eq, decide_eq_false_iff_not, Bool.not_eq_true', Bool.not_eq_false', Nat.reduceLeDiff, Nat.reduceAdd, Nat.zero_le, Bool.not_true, Bool.not_false, pbi_len (seq_at hk), List.length_map]
  refine ⟨fun c => ?_, fun c => ?_⟩
  · have hpl : pl < ks.length := by omega
    have hx : ks[pl]? = some ks[pl] := List.getElem?_eq_getElem hpl
    generalize ks[pl] = x at hx
    obtain ⟨m', rfl⟩ : ∃ m', m = m' + 1 := ⟨m - 1, by omega⟩
    refine ⟨m', rfl, ?_⟩
    have e1 : pidx (.ref l) (.int (pl : Int)) h = some (.str x) := by
      rw [pidx_seq (seq_at hk)]; exact atP_nat (by rw [List.getElem?_map, hx]; rfl)
    refine wS_cons (wS_for (lookD D x) encM (fun _ => True) (fun pre σ h => ∃ (a4 a5 a6 : Option PV), σ = [some (prog D), some (.str a), some (.ref l), some (.int (pl : Int)), a4, a5, a6, none] ∧ h[l]? = some (.lst ((pre.foldl brow ks).map .str)) ∧ Hx h0 h) ?_ (fun _ _ _ _ => trivial) ?_ ?_)
    · refine wI_itrT ?_
      simp only [wE_var, wE_non, wE_bl, wE_int, wE_str, wE_tup, wE_lst, wE_bin, wE_cmp, wE_and, wE_or, wE_not, wE_ite, wE_idx, wE_call, wE_bi, wE_mt, wL_nil, wL_cons, wR_some, wV_some, wB_some, wG_some, wX_some, wT_bl, wT_int, wT_non, wT_tup, bindP, bindPs, wipeP, List.getElem?_cons_zero, List.getElem?_cons_succ, List.set_cons_zero, List.set_cons_succ, List.length_cons, List.length_nil, pbin_add, pbin_sub, pbi_int, pbi_lenT, pbi_tupT, isTup_tup, isTup_str, isTup_int, isTup_bl, isTup_non, isBl_bl, isBl_int, isBl_str, isInt_int, isInt_str, isStr_str, pcmp_lt, pcmp_le, pcmp_gt, pcmp_ge, pcmp_eqI, pcmp_neI, pcmp_eqS, pcmp_neS, pcmp_eqB, pcmp_isN, pcmp_isT, pcmp_isS, pcmp_isI, pcmp_isB, pcmp_isnotN, pcmp_isnotT, pcmp_isnotS, seq_tup, pidx_tup, atP_0, atP_1, atP_2, atP_3, SZ_le, SZ_lt, true_implies, false_implies, Bool.true_eq_false, Bool.false_eq_true, and_true, true_and, decide_eq_true_eq, decide_eq_false_iff_not, Bool.not_eq_true', Bool.not_eq_false', Nat.reduceLeDiff, Nat.reduceAdd, Nat.zero_le, Bool.not_true, Bool.not_false, e1]
      refine wC_mono (makers_ok s) fun v h' ⟨hv, k'⟩ => ⟨_, hv, .inl rfl, _, _, _, rfl, k' _ _ hk, k.trans k'⟩
    · rintro pre mk post e σ h2 ⟨a4, a5, a6, rfl, hk2, k2⟩
      have hmk : mk ∈ lookD D x := by rw [e]; simp
      refine ⟨_, rfl, ?_⟩
      show wS P _ _ [some (prog D), some (.str a), some (.ref l), some (.int (pl : Int)), some (.str mk.1), some (.tup (mk.2.map .str)), a6, none] h2 _ _
      -- the length
      have hb : ∀ pre2 post2, mk.2 = pre2 ++ post2 → (pre2.foldl addp (pre.foldl brow ks)).length ≤ 6 := fun pre2 post2 e2 => by
        obtain ⟨⟨t, et⟩, g1, g2, g3⟩ := brows_ok pre ks
        obtain ⟨⟨t', et'⟩, g1', g2', g3'⟩ := addps_ok pre2 (pre.foldl brow ks)
        have hxr := bi.rch x (List.mem_of_getElem? hx)
        have := nodup_len (pre2.foldl addp (pre.foldl brow ks)) (uni D) (g2' (g2 bi.nd)) fun y hy => by
          refine reach_uni s ha (a := a) ?_
          rcases g3' y hy with z | z
          · rcases g3 y z with z | ⟨m2, hm2, z⟩
            · exact bi.rch y z
            · exact .step hxr (by rw [e]; exact List.mem_append_left _ hm2) z
          · exact .step hxr hmk (by rw [e2]; exact List.mem_append_left _ z)
        have hh := s.hi
        unfold uni at this
        simp at this
        omega
      refine wS_cons (wS_for mk.2 PV.str (fun _ => True) (fun pre2 σ h => ∃ (a6 : Option PV), σ = [some (prog D), some (.str a), some (.ref l), some (.int (pl : Int)), some (.str mk.1), some (.tup (mk.2.map .str)), a6, none] ∧ h[l]? = some (.lst ((pre2.foldl addp (pre.foldl brow ks)).map .str)) ∧ Hx h0 h) ?_ (fun _ _ _ _ => trivial) ?_ ?_)
      · refine wI_itrT ?_
        simp only [wE_var, wE_non, wE_bl, wE_int, wE_str, wE_tup, wE_lst, wE_bin, wE_cmp, wE_and, wE_or, wE_not, wE_ite, wE_idx, wE_call, wE_bi, wE_mt, wL_nil, wL_cons, wR_some, wV_some, wB_some, wG_some, wX_some, wT_bl, wT_int, wT_non, wT_tup, bindP, bindPs, wipeP, List.getElem?_cons_zero, List.getElem?_cons_succ, List.set_cons_zero, List.set_cons_succ, List.length_cons, List.length_nil, pbin_add, pbin_sub, pbi_int, pbi_lenT, pbi_tupT, isTup_tup, isTup_str, isTup_int, isTup_bl, isTup_non, isBl_bl, isBl_int, isBl_str, isInt_int, isInt_str, isStr_str, pcmp_lt, pcmp_le, pcmp_gt, pcmp_ge, pcmp_eqI, pcmp_neI, pcmp_eqS, pcmp_neS, pcmp_eqB, pcmp_isN, pcmp_isT, pcmp_isS, pcmp_isI, pcmp_isB, pcmp_isnotN, pcmp_isnotT, pcmp_isnotS, seq_tup, pidx_tup, atP_0, atP_1, atP_2, atP_3, SZ_le, SZ_lt, true_implies, false_implies, Bool.true_eq_false, Bool.false_eq_true, and_true, true_and, decide_eq_true_eq, decide_eq_false_iff_not, Bool.not_eq_true', Bool.not_eq_false', Nat.reduceLeDiff, Nat.reduceAdd, Nat.zero_le, Bool.not_true, Bool.not_false]
        exact ⟨_, rfl, .inl rfl, _, rfl, hk2, k2⟩
      · rintro pre2 p post2 e2 σ h3 ⟨a6, rfl, hk3, k3⟩
        have hb3 := hb pre2 (p :: post2) e2
        generalize hK : pre2.foldl addp (pre.foldl brow ks) = K at hk3 hb3
        refine ⟨_, rfl, ?_⟩
        show wS P _ _ [some (prog D), some (.str a), some (.ref l), some (.int (pl : Int)), some (.str mk.1), some (.tup (mk.2.map .str)), some (.str p), none] h3 _ _
        refine wS_cons (wS_cond ?_)
        have e4 := pnotin_strs (s := p) (seq_at hk3)
        simp only [wE_var, wE_non, wE_bl, wE_int, wE_str, wE_tup, wE_lst, wE_bin, wE_cmp, wE_and, wE_or, wE_not, wE_ite, wE_idx, wE_call, wE_bi, wE_mt, wL_nil, wL_cons, wR_some, wV_some, wB_some, wG_some, wX_some, wT_bl, wT_int, wT_non, wT_tup, bindP, bindPs, wipeP, List.getElem?_cons_zero, List.getElem?_cons_succ, List.set_cons_zero, List.set_cons_succ, List.length_cons, List.length_nil, pbin_add, pbin_sub, pbi_int, pbi_lenT, pbi_tupT, isTup_tup, isTup_str, isTup_int, isTup_bl, isTup_non, isBl_bl, isBl_int, isBl_str, isInt_int, isInt_str, isStr_str, pcmp_lt, pcmp_le, pcmp_gt, pcmp_ge, pcmp_eqI, pcmp_neI, pcmp_eqS, pcmp_neS, pcmp_eqB, pcmp_isN, pcmp_isT, pcmp_isS, pcmp_isI, pcmp_isB, pcmp_isnotN, pcmp_isnotT, pcmp_isnotS, seq_tup, pidx_tup, atP_0, atP_1, atP_2, atP_3, SZ_le, SZ_lt, true_implies, false_implies, Bool.true_eq_false, Bool.false_eq_true, and_true, true_and, decide_eq_true_eq, decide_eq_false_iff_not, Bool.not_eq_true', Bool.not_eq_false', Nat.reduceLeDiff, Nat.reduceAdd, Nat.zero_le, Bool.not_true, Bool.not_false, e4]
        refine ⟨fun c => ?_, fun c => ?_⟩
        · refine wS_cons (wS_expr ?_)
          simp only [wE_var, wE_non, wE_bl, wE_int, wE_str, wE_tup, wE_lst, wE_bin, wE_cmp, wE_and, wE_or, wE_not, wE_ite, wE_idx, wE_call, wE_bi, wE_mt, wL_nil, wL_cons, wR_some, wV_some, wB_some, wG_some, wX_some, wT_bl, wT_int, wT_non, wT_tup, bindP, bindPs, wipeP, List.getElem?_cons_zero, List.getElem?_cons_succ, List.set_cons_zero, List.set_cons_succ, List.length_cons, List.length_nil, pbin_add, pbin_sub, pbi_int, pbi_lenT, pbi_tupT, isTup_tup, isTup_str, isTup_int, isTup_bl, isTup_non, isBl_bl, isBl_int, isBl_str, isInt_int, isInt_str, isStr_str, pcmp_lt, pcmp_le, pcmp_gt, pcmp_ge, pcmp_eqI, pcmp_neI, pcmp_eqS, pcmp_neS, pcmp_eqB, pcmp_isN, pcmp_isT, pcmp_isS, pcmp_isI, pcmp_isB, pcmp_isnotN, pcmp_isnotT, pcmp_isnotS, seq_tup, pidx_tup, atP_0, atP_1, atP_2, atP_3, SZ_le, SZ_lt, true_implies, false_implies, Bool.true_eq_false, Bool.false_eq_true, and_true, true_and, decide_eq_true_eq, decide_eq_false_iff_not, Bool.not_eq_true', Bool.not_eq_false', Nat.reduceLeDiff, Nat.reduceAdd, Nat.zero_le, Bool.not_true, Bool.not_false, okT_app hk3, pmt_app hk3 (v := .str p) (by simp [SZ]; omega)]
          refine wS_nil (wS_nil ⟨_, rfl, ?_, k3.set (by omega)⟩)
          rw [List.foldl_append, hK]
          have c' : p ∉ K := by simpa using c
          rw [show List.foldl addp K [p] = K ++ [p] from if_neg c']
          simp [(List.getElem?_eq_some_iff.mp hk3).1]
        · refine wS_nil (wS_nil ⟨_, rfl, ?_, k3⟩)
          rw [List.foldl_append, hK]
          have c' : p ∈ K := by simpa using c
          rw [show List.foldl addp K [p] = K from if_pos c']
          exact hk3
      · rintro σ h3 ⟨a6, rfl, hk3, k3⟩
        refine wS_nil ⟨_, _, _, rfl, ?_, k3⟩
        rw [List.foldl_append]; exact hk3
    · rintro σ h2 ⟨a4, a5, a6, rfl, hk2, k2⟩
      refine wS_cons (wS_aug rfl ?_)
      simp only [wE_var, wE_non, wE_bl, wE_int, wE_str, wE_tup, wE_lst, wE_bin, wE_cmp, wE_and, wE_or, wE_not, wE_ite, wE_idx, wE_call, wE_bi, wE_mt, wL_nil, wL_cons, wR_some, wV_some, wB_some, wG_some, wX_some, wT_bl, wT_int, wT_non, wT_tup, bindP, bindPs, wipeP, List.getElem?_cons_zero, List.getElem?_cons_succ, List.set_cons_zero, List.set_cons_succ, List.length_cons, List.length_nil, pbin_add, pbin_sub, pbi_int, pbi_lenT, pbi_tupT, isTup_tup, isTup_str, isTup_int, isTup_bl, isTup_non, isBl_bl, isBl_int, isBl_str, isInt_int, isInt_str, isStr_str, pcmp_lt, pcmp_le, pcmp_gt, pcmp_ge, pcmp_eqI, pcmp_neI, pcmp_eqS, pcmp_neS, pcmp_eqB, pcmp_isN, pcmp_isT, pcmp_isS, pcmp_isI, pcmp_isB, pcmp_isnotN, pcmp_isnotT, pcmp_isnotS, seq_tup, pidx_tup, atP_0, atP_1, atP_2, atP_3, SZ_le, SZ_lt, true_implies, false_implies, Bool.true_eq_false, Bool.false_eq_true, and_true, true_and, decide_eq_true_eq, decide_eq_false_iff_not, Bool.not_eq_true', Bool.not_eq_false', Nat.reduceLeDiff, Nat.reduceAdd, Nat.zero_le, Bool.not_true, Bool.not_false, paug]
      exact wS_nil ⟨_, _, _, bstep D ks x, pl + 1, rfl, hk2, k2, bi.step hx, by omega⟩
  · have hpl : ks.length ≤ pl := by omega
    refine wS_cons (wS_ret ?_)
    simp only [wE_var, wE_non, wE_bl, wE_int, wE_str, wE_tup, wE_lst, wE_bin, wE_cmp, wE_and, wE_or, wE_not, wE_ite, wE_idx, wE_call, wE_bi, wE_mt, wL_nil, wL_cons, wR_some, wV_some, wB_some, wG_some, wX_some, wT_bl, wT_int, wT_non, wT_tup, bindP, bindPs, wipeP, List.getElem?_cons_zero, List.getElem?_cons_succ, List.set_cons_zero, List.set_cons_succ, List.length_cons, List.length_nil, pbin_add, pbin_sub, pbi_int, pbi_lenT, pbi_tupT, isTup_tup, isTup_str, isTup_int, isTup_bl, isTup_non, isBl_bl, isBl_int, isBl_str, isInt_int, isInt_str, isStr_str, pcmp_lt, pcmp_le, pcmp_gt, pcmp_ge, pcmp_eqI, pcmp_neI, pcmp_eqS, pcmp_neS, pcmp_eqB, pcmp_isN, pcmp_isT, pcmp_isS, pcmp_isI, pcmp_isB, pcmp_isnotN, pcmp_isnotT, pcmp_isnotS, seq_tup, pidx_tup, atP_0, atP_1, atP_2, atP_3, SZ_le, SZ_lt, true_implies, false_implies, Bool.true_eq_false, Bool.false_eq_true, and_true, true_and, decide_eq_true_eq, decide_eq_false_iff_not, Bool.not_eq_true', Bool.not_eq_false', Nat.reduceLeDiff, Nat.reduceAdd, Nat.zero_le, Bool.not_true, Bool.not_false]
    refine wE_gen2 ?_
    refine wI_itrL ?_
    simp only [wE_var, wE_non, wE_bl, wE_int, wE_str, wE_tup, wE_lst, wE_bin, wE_cmp, wE_and, wE_or, wE_not, wE_ite, wE_idx, wE_call, wE_bi, wE_mt, wL_nil, wL_cons, wR_some, wV_some, wB_some, wG_some, wX_some, wT_bl, wT_int, wT_non, wT_tup, bindP, bindPs, wipeP, List.getElem?_cons_zero, List.getElem?_cons_succ, List.set_cons_zero, List.set_cons_succ, List.length_cons, List.length_nil, pbin_add, pbin_sub, pbi_int, pbi_lenT, pbi_tupT, isTup_tup, isTup_str, isTup_int, isTup_bl, isTup_non, isBl_bl, isBl_int, isBl_str, isInt_int, isInt_str, isStr_str, pcmp_lt, pcmp_le, pcmp_gt, pcmp_ge, pcmp_eqI, pcmp_neI, pcmp_eqS, pcmp_neS, pcmp_eqB, pcmp_isN, pcmp_isT, pcmp_isS, pcmp_isI, pcmp_isB, pcmp_isnotN, pcmp_isnotT, pcmp_isnotS, seq_tup, pidx_tup, atP_0, atP_1, atP_2, atP_3, SZ_le, SZ_lt, true_implies, false_implies, Bool.true_eq_false, Bool.false_eq_true, and_true, true_and, decide_eq_true_eq, decide_eq_false_iff_not, Bool.not_eq_true', Bool.not_eq_false', Nat.reduceLeDiff, Nat.reduceAdd, Nat.zero_le, Bool.not_true, Bool.not_false]
    refine ⟨l, _, rfl, seq_at hk, ?_⟩
    have hfl := flat_len s ks
    refine wW_ok (L := ks) (enc := PV.str) (fun h' => Hx h h') (.inr (.inl ⟨l, rfl, fun h' k' => k'.seq (seq_at hk)⟩)) (fun _ _ _ i => i.2) (Inv := fun pre acc h' => acc = (pre.flatMap (mkrs D)).map PV.str ∧ Hx h h') ⟨rfl, Hx.refl⟩ ?_ ?_
    · rintro pre x post e acc h2 ⟨rfl, k2⟩
      refine wF_two ⟨_, rfl, ?_⟩
      refine wI_itrT ?_
      simp only [wE_var, wE_non, wE_bl, wE_int, wE_str, wE_tup, wE_lst, wE_bin, wE_cmp, wE_and, wE_or, wE_not, wE_ite, wE_idx, wE_call, wE_bi, wE_mt, wL_nil, wL_cons, wR_some, wV_some, wB_some, wG_some, wX_some, wT_bl, wT_int, wT_non, wT_tup, bindP, bindPs, wipeP, List.getElem?_cons_zero, List.getElem?_cons_succ, List.set_cons_zero, List.set_cons_succ, List.length_cons, List.length_nil, pbin_add, pbin_sub, pbi_int, pbi_lenT, pbi_tupT, isTup_tup, isTup_str, isTup_int, isTup_bl, isTup_non, isBl_bl, isBl_int, isBl_str, isInt_int, isInt_str, isStr_str, pcmp_lt, pcmp_le, pcmp_gt, pcmp_ge, pcmp_eqI, pcmp_neI, pcmp_eqS, pcmp_neS, pcmp_eqB, pcmp_isN, pcmp_isT, pcmp_isS, pcmp_isI, pcmp_isB, pcmp_isnotN, pcmp_isnotT, pcmp_isnotS, seq_tup, pidx_tup, atP_0, atP_1, atP_2, atP_3, SZ_le, SZ_lt, true_implies, false_implies, Bool.true_eq_false, Bool.false_eq_true, and_true, true_and, decide_eq_true_eq, decide_eq_false_iff_not, Bool.not_eq_true', Bool.not_eq_false', Nat.reduceLeDiff, Nat.reduceAdd, Nat.zero_le, Bool.not_true, Bool.not_false]
      refine wC_mono (makers_ok s) fun v h3 ⟨hv, k3⟩ => ⟨_, hv, ?_⟩
      have hpl2 := flat_len s pre
      have hpre : pre.length ≤ 6 := by
        have : ks.length = pre.length + (post.length + 1) := by rw [e]; simp
        omega
      refine wW_ok (L := lookD D x) (enc := encM) (fun _ => True) (.inl rfl) (fun _ _ _ _ => trivial) (Inv := fun pre2 acc h' => acc = (pre.flatMap (mkrs D)).map PV.str ++ pre2.map (fun m => PV.str m.1) ∧ h' = h3) ⟨by simp, rfl⟩ ?_ ?_
      · rintro pre2 m2 post2 e2 acc h4 ⟨rfl, rfl⟩
        refine wF_gen ⟨_, rfl, ?_⟩
        simp only [wE_var, wE_non, wE_bl, wE_int, wE_str, wE_tup, wE_lst, wE_bin, wE_cmp, wE_and, wE_or, wE_not, wE_ite, wE_idx, wE_call, wE_bi, wE_mt, wL_nil, wL_cons, wR_some, wV_some, wB_some, wG_some, wX_some, wT_bl, wT_int, wT_non, wT_tup, bindP, bindPs, wipeP, List.getElem?_cons_zero, List.getElem?_cons_succ, List.set_cons_zero, List.set_cons_succ, List.length_cons, List.length_nil, pbin_add, pbin_sub, pbi_int, pbi_lenT, pbi_tupT, isTup_tup, isTup_str, isTup_int, isTup_bl, isTup_non, isBl_bl, isBl_int, isBl_str, isInt_int, isInt_str, isStr_str, pcmp_lt, pcmp_le, pcmp_gt, pcmp_ge, pcmp_eqI, pcmp_neI, pcmp_eqS, pcmp_neS, pcmp_eqB, pcmp_isN, pcmp_isT, pcmp_isS, pcmp_isI, pcmp_isB, pcmp_isnotN, pcmp_isnotT, pcmp_isnotS, seq_tup, pidx_tup, atP_0, atP_1, atP_2, atP_3, SZ_le, SZ_lt, true_implies, false_implies, Bool.true_eq_false, Bool.false_eq_true, and_true, true_and, decide_eq_true_eq, decide_eq_false_iff_not, Bool.not_eq_true', Bool.not_eq_false', Nat.reduceLeDiff, Nat.reduceAdd, Nat.zero_le, Bool.not_true, Bool.not_false, tgVars, List.cons_append, List.nil_append]
        have h3' := mkrs_len s x
        have hp2 : pre2.length ≤ 3 := by
          have : (lookD D x).length = pre2.length + (post2.length + 1) := by rw [e2]; simp
          omega
        refine ⟨_, show eat .sorted _ _ _ = some _ from if_pos (by simp [SZ]; simp at hpl2; omega), (fun z => nomatch z), fun _ => by simp⟩
      · rintro acc h4 ⟨rfl, rfl⟩
        refine ⟨(fun z => nomatch z), fun _ => ⟨?_, k2.trans k3⟩⟩
        rw [List.flatMap_append, List.map_append]
        congr 1
        simp [mkrs]
    · rintro acc h2 ⟨rfl, k2⟩
      have e5 : eaten .sorted ((ks.flatMap (mkrs D)).map PV.str) h2 = some (.ref h2.length, h2 ++ [.lst ((sortSg (ks.flatMap (mkrs D))).map .str)]) := psort_strs (by omega)
      simp only [wE_var, wE_non, wE_bl, wE_int, wE_str, wE_tup, wE_lst, wE_bin, wE_cmp, wE_and, wE_or, wE_not, wE_ite, wE_idx, wE_call, wE_bi, wE_mt, wL_nil, wL_cons, wR_some, wV_some, wB_some, wG_some, wX_some, wT_bl, wT_int, wT_non, wT_tup, bindP, bindPs, wipeP, List.getElem?_cons_zero, List.getElem?_cons_succ, List.set_cons_zero, List.set_cons_succ, List.length_cons, List.length_nil, pbin_add, pbin_sub, pbi_int, pbi_lenT, pbi_tupT, isTup_tup, isTup_str, isTup_int, isTup_bl, isTup_non, isBl_bl, isBl_int, isBl_str, isInt_int, isInt_str, isStr_str, pcmp_lt, pcmp_le, pcmp_gt, pcmp_ge, pcmp_eqI, pcmp_neI, pcmp_eqS, pcmp_neS, pcmp_eqB, pcmp_isN, pcmp_isT, pcmp_isS, pcmp_isI, pcmp_isB, pcmp_isnotN, pcmp_isnotT, pcmp_isnotS, seq_tup, pidx_tup, atP_0, atP_1, atP_2, atP_3, SZ_le, SZ_lt, true_implies, false_implies, Bool.true_eq_false, Bool.false_eq_true, and_true, true_and, decide_eq_true_eq, decide_eq_false_iff_not, Bool.not_eq_true', Bool.not_eq_false', Nat.reduceLeDiff, Nat.reduceAdd, Nat.zero_le, Bool.not_true, Bool.not_false, e5, pbi_tup (x := .ref h2.length) (h := h2 ++ [AO.lst ((sortSg (ks.flatMap (mkrs D))).map PV.str)]) seq_new]
      exact ⟨ks, bi.nd, bi.done hpl, hlen, rfl, (k.trans k2).app⟩
end Mi.K6
set_option Elab.async false
set_option linter.all false
set_option maxRecDepth 100000
set_option maxHeartbeats 4000000
namespace Mi.K6
open Mi
/-! the law's makers -/
theorem count_len : ∀ (u l : List Sg), (∀ x ∈ l, x ∈ u) → (∀ x, l.count x ≤ 2) → l.length ≤ 2 * u.length
  | [], l, hu, _ => by
    cases l with
    | nil => simp
    | cons a l => exact absurd (hu a List.mem_cons_self) List.not_mem_nil
  | a :: u, l, hu, hc => by
    have ih := count_len u (l.filter fun x => !decide (x = a)) (fun x hx => by
      obtain ⟨h1, h2⟩ := List.mem_filter.mp hx
      rcases List.mem_cons.mp (hu x h1) with z | z
      · exact absurd z (by simpa using h2)
      · exact z) (fun x => Nat.le_trans (List.Sublist.count_le x (List.filter_sublist)) (hc x))
    have h1 : l.length = l.count a + (l.filter fun x => !decide (x = a)).length := by
      clear ih hu hc
      induction l with
      | nil => rfl
      | cons b l ih =>
        rw [List.length_cons, List.filter_cons, List.count_cons]
        by_cases h : b = a
        · subst h; simp; omega
        · have : (b == a) = false := by simp [h]
          simp [h]; omega
    have := hc a
    rw [List.length_cons]; omega
structure AOk (D : List Dt) (a : Sg) (ks : List Sg) : Prop where
  r : ∀ x ∈ ks, Reach D a x
  c : ∀ x, ks.count x ≤ 2
theorem AOk.len {D : List Dt} {a : Sg} {ks : List Sg} (s : Shape D) (ha : a ∈ uni D) (o : AOk D a ks) : ks.length ≤ 12 := by
  have := count_len (uni D) ks (fun x hx => reach_uni s ha (o.r x hx)) o.c
  have hh := s.hi
  unfold uni at this
  simp at this
  omega
theorem AOk.row {D : List Dt} {a k : Sg} {ks : List Sg} {m : Mk} (s : Shape D) (o : AOk D a ks) (hk : Reach D a k) (hm : m ∈ lookD D k) : AOk D a (lrow ks m) := by
  refine ⟨fun x hx => ?_, fun x => ?_⟩
  · rcases List.mem_append.mp hx with z | z
    · exact o.r x z
    · exact .step hk hm (List.mem_filter.mp z).1
  · unfold lrow
    rw [List.count_append]
    by_cases h : x ∈ ks
    · have : (m.2.filter fun p => decide (p ∉ ks)).count x = 0 := List.count_eq_zero.mpr fun z => of_decide_eq_true (List.mem_filter.mp z).2 h
      have := o.c x
      omega
    · rw [List.count_eq_zero.mpr h]
      obtain ⟨d, hd, _, hm'⟩ := look_mem hm
      have h1 := (s.prt d hd m hm').1
      have h2 := List.count_le_length (a := x) (l := m.2.filter fun p => decide (p ∉ ks))
      have h3 := List.length_filter_le (fun p => decide (p ∉ ks)) m.2
      omega
theorem rows_ok {D : List Dt} {a k : Sg} (s : Shape D) (hk : Reach D a k) : ∀ (rows : List Mk) (ks : List Sg), (∀ m ∈ rows, m ∈ lookD D k) → AOk D a ks → AOk D a (rows.foldl lrow ks)
  | [], ks, _, o => o
  | m :: rows, ks, h, o => by
    rw [List.foldl_cons]
    exact rows_ok s hk rows _ (fun x hx => h x (List.mem_cons_of_mem _ hx)) (o.row s hk (h m List.mem_cons_self))
theorem makersin_ok {D : List Dt} {n : Nat} {h0 : AH} {a : Sg} (s : Shape D) (ha : a ∈ uni D) : wC (callF P (n + 1)) 22 [prog D, .str a] h0 (fun v h' => ∃ l, v = .ref l ∧ h'[l]? = some (.lst ((sortSg ((sortSg (onceG [] (liter D a 6))).flatMap (mkrs D))).map .str)) ∧ Hx h0 h') := by
  refine wC_of (d := ⟨2, 9, b22⟩) rfl rfl ?_
  show wS P _ b22 [some (prog D), some (.str a), none, none, none, none, none, none, none] h0 _ _
  refine wS_cons (wS_asg rfl ?_)
  simp only [wE_var, wE_non, wE_bl, wE_int, wE_str, wE_tup, wE_lst, wE_bin, wE_cmp, wE_and, wE_or, wE_not, wE_ite, wE_idx, wE_call, wE_bi, wE_mt, wL_nil, wL_cons, wR_some, wV_some, wB_some, wG_some, wX_some, wT_bl, wT_int, wT_non, wT_tup, bindP, bindPs, wipeP, List.getElem?_cons_zero, List.getElem?_cons_succ, List.set_cons_zero, List.set_cons_succ, List.length_cons, List.length_nil, pbin_add, pbin_sub, pbi_int, pbi_lenT, pbi_tupT, isTup_tup, isTup_str, isTup_int, isTup_bl, isTup_non, isBl_bl, isBl_int, isBl_str, isInt_int, isInt_str, isStr_str, pcmp_lt, pcmp_le, pcmp_gt, pcmp_ge, pcmp_eqI, pcmp_neI, pcmp_eqS, pcmp_neS, pcmp_eqB, pcmp_isN, pcmp_isT, pcmp_isS, pcmp_isI, pcmp_isB, pcmp_isnotN, pcmp_isnotT, pcmp_isnotS, seq_tup, pidx_tup, atP_0, atP_1, atP_2, atP_3, SZ_le, SZ_lt, true_implies, false_implies, Bool.true_eq_false, Bool.false_eq_true, and_true, true_and, decide_eq_true_eq, decide_eq_false_iff_not, Bool.not_eq_true', Bool.not_eq_false', Nat.reduceLeDiff, Nat.reduceAdd, Nat.zero_le, Bool.not_true, Bool.not_false]
  have k0 : Hx h0 (h0 ++ [AO.lst [PV.str a]]) := Hx.refl.app
  have hl0 : (h0 ++ [AO.lst [PV.str a]])[h0.length]? = some (.lst (([a] : List Sg).map .str)) := by simp
  generalize h0.length = l at hl0
  generalize h0 ++ [AO.lst [PV.str a]] = h1 at k0 hl0
  have o0 : AOk D a [a] := ⟨fun x hx => by rw [List.mem_singleton] at hx; subst hx; exact .base, fun x => Nat.le_trans List.count_le_length (by simp)⟩
  refine wS_cons (wS_for (List.range 6) (fun k : Nat => PV.int k) (fun _ => True) (fun pre σ h => ∃ (l : Nat) (a3 a4 a5 a6 : Option PV), σ = [some (prog D), some (.str a), some (.ref l), a3, a4, a5, a6, none, none] ∧ h[l]? = some (.lst ((liter D a pre.length).map .str)) ∧ Hx h0 h ∧ AOk D a (liter D a pre.length)) ?_ (fun _ _ _ _ => trivial) ?_ ?_)
  · refine wI_range1 ?_
    simp only [wE_var, wE_non, wE_bl, wE_int, wE_str, wE_tup, wE_lst, wE_bin, wE_cmp, wE_and, wE_or, wE_not, wE_ite, wE_idx, wE_call, wE_bi, wE_mt, wL_nil, wL_cons, wR_some, wV_some, wB_some, wG_some, wX_some, wT_bl, wT_int, wT_non, wT_tup, bindP, bindPs, wipeP, List.getElem?_cons_zero, List.getElem?_cons_succ, List.set_cons_zero, List.set_cons_succ, List.length_cons, List.length_nil, pbin_add, pbin_sub, pbi_int, pbi_lenT, pbi_tupT, isTup_tup, isTup_str, isTup_int, isTup_bl, isTup_non, isBl_bl, isBl_int, isBl_str, isInt_int, isInt_str, isStr_str, pcmp_lt, pcmp_le, pcmp_gt, pcmp_ge, pcmp_eqI, pcmp_neI, pcmp_eqS, pcmp_neS, pcmp_eqB, pcmp_isN, pcmp_isT, pcmp_isS, pcmp_isI, pcmp_isB, pcmp_isnotN, pcmp_isnotT, pcmp_isnotS, seq_tup, pidx_tup, atP_0, atP_1, atP_2, atP_3, SZ_le, SZ_lt, true_implies, false_implies, Bool.true_eq_false, Bool.false_eq_true, and_true, true_and, decide_eq_true_eq, decide_eq_false_iff_not, Bool.not_eq_true', Bool.not_eq_false', Nat.reduceLeDiff, Nat.reduceAdd, Nat.zero_le, Bool.not_true, Bool.not_false]
    exact ⟨6, rfl, by decide, .inl rfl, _, _, _, _, _, rfl, hl0, k0, o0⟩
  · rintro pre t post e σ h ⟨l, a3, a4, a5, a6, rfl, hk, k, o⟩
    refine ⟨_, rfl, ?_⟩
    show wS P _ _ [some (prog D), some (.str a), some (.ref l), some (.int (t : Int)), a4, a5, a6, none, none] h _ _
    generalize hK : liter D a pre.length = K at hk o
    have e1 := pbi_list (seq_at hk)
    have hl2 : (h ++ [AO.lst (K.map PV.str)])[h.length]? = some (.lst (K.map PV.str)) := by simp
    refine wS_cons (wS_for K PV.str (fun h' => Hx (h ++ [AO.lst (K.map PV.str)]) h') (fun pre2 σ h' => ∃ (l : Nat) (a4 a5 a6 : Option PV) (A : List Sg), σ = [some (prog D), some (.str a), some (.ref l), some (.int (t : Int)), a4, a5, a6, none, none] ∧ h'[l]? = some (.lst (A.map .str)) ∧ A = pre2.foldl (fun acc own => (lookD D own).foldl lrow acc) K ∧ Hx (h ++ [AO.lst (K.map PV.str)]) h' ∧ AOk D a A) ?_ (fun _ _ _ ⟨_, _, _, _, _, _, _, _, k, _⟩ => k) ?_ ?_)
    · refine wI_itrL ?_
      simp only [wE_var, wE_non, wE_bl, wE_int, wE_str, wE_tup, wE_lst, wE_bin, wE_cmp, wE_and, wE_or, wE_not, wE_ite, wE_idx, wE_call, wE_bi, wE_mt, wL_nil, wL_cons, wR_some, wV_some, wB_some, wG_some, wX_some, wT_bl, wT_int, wT_non, wT_tup, bindP, bindPs, wipeP, List.getElem?_cons_zero, List.getElem?_cons_succ, List.set_cons_zero, List.set_cons_succ, List.length_cons, List.length_nil, pbin_add, pbin_sub, pbi_int, pbi_lenT, pbi_tupT, isTup_tup, isTup_str, isTup_int, isTup_bl, isTup_non, isBl_bl, isBl_int, isBl_str, isInt_int, isInt_str, isStr_str, pcmp_lt, pcmp_le, pcmp_gt, pcmp_ge, pcmp_eqI, pcmp_neI, pcmp_eqS, pcmp_neS, pcmp_eqB, pcmp_isN, pcmp_isT, pcmp_isS, pcmp_isI, pcmp_isB, pcmp_isnotN, pcmp_isnotT, pcmp_isnotS, seq_tup, pidx_tup, atP_0, atP_1, atP_2, atP_3, SZ_le, SZ_lt, true_implies, false_implies, Bool.true_eq_false, Bool.false_eq_true, and_true, true_and, decide_eq_true_eq, decide_eq_false_iff_not, Bool.not_eq_true', Bool.not_eq_false', Nat.reduceLeDiff, Nat.reduceAdd, Nat.zero_le, Bool.not_true, Bool.not_false, e1]
      exact ⟨_, _, rfl, seq_new, .inr (.inl ⟨_, rfl, fun h' k' => k'.seq (seq_at hl2)⟩), _, _, _, _, K, rfl, Hx.refl.app _ _ hk, rfl, Hx.refl, o⟩
    · rintro pre2 x post2 e2 σ h2 ⟨l, a4, a5, a6, A, rfl, hA, eA, k2, oA⟩
      have hx : Reach D a x := o.r x (by rw [e2]; simp)
      refine ⟨_, rfl, ?_⟩
      show wS P _ _ [some (prog D), some (.str a), some (.ref l), some (.int (t : Int)), some (.str x), a5, a6, none, none] h2 _ _
      refine wS_cons (wS_for (lookD D x) encM (fun _ => True) (fun pre3 σ h' => ∃ (l : Nat) (a5 a6 : Option PV), σ = [some (prog D), some (.str a), some (.ref l), some (.int (t : Int)), some (.str x), a5, a6, none, none] ∧ h'[l]? = some (.lst ((pre3.foldl lrow A).map .str)) ∧ Hx (h ++ [AO.lst (K.map PV.str)]) h') ?_ (fun _ _ _ _ => trivial) ?_ ?_)
      · refine wI_itrT ?_
        refine get_ok s rfl rfl fun h' k' => ?_
        exact ⟨_, rfl, .inl rfl, _, _, _, rfl, k' _ _ hA, k2.trans k'⟩
      · rintro pre3 m post3 e3 σ h3 ⟨l, a5, a6, rfl, h3A, k3⟩
        have hm : m ∈ lookD D x := by rw [e3]; simp
        have o3 := rows_ok s hx pre3 A (fun y hy => by rw [e3]; exact List.mem_append_left _ hy) oA
        generalize hB : pre3.foldl lrow A = B at h3A o3
        have hBl := o3.len s ha
        have o4 := (o3.row s hx hm).len s ha
        refine ⟨_, rfl, ?_⟩
        show wS P _ _ [some (prog D), some (.str a), some (.ref l), some (.int (t : Int)), some (.str x), some (.str m.1), some (.tup (m.2.map .str)), none, none] h3 _ _
        refine wS_cons (wS_asg rfl ?_)
        simp only [wE_var, wE_non, wE_bl, wE_int, wE_str, wE_tup, wE_lst, wE_bin, wE_cmp, wE_and, wE_or, wE_not, wE_ite, wE_idx, wE_call, wE_bi, wE_mt, wL_nil, wL_cons, wR_some, wV_some, wB_some, wG_some, wX_some, wT_bl, wT_int, wT_non, wT_tup, bindP, bindPs, wipeP, List.getElem?_cons_zero, List.getElem?_cons_succ, List.set_cons_zero, List.set_cons_succ, List.length_cons, List.length_nil, pbin_add, pbin_sub, pbi_int, pbi_lenT, pbi_tupT, isTup_tup, isTup_str, isTup_int, isTup_bl, isTup_non, isBl_bl, isBl_int, isBl_str, isInt_int, isInt_str, isStr_str, pcmp_lt, pcmp_le, pcmp_gt, pcmp_ge, pcmp_eqI, pcmp_neI, pcmp_eqS, pcmp_neS, pcmp_eqB, pcmp_isN, pcmp_isT, pcmp_isS, pcmp_isI, pcmp_isB, pcmp_isnotN, pcmp_isnotT, pcmp_isnotS, seq_tup, pidx_tup, atP_0, atP_1, atP_2, atP_3, SZ_le, SZ_lt, true_implies, false_implies, Bool.true_eq_false, Bool.false_eq_true, and_true, true_and, decide_eq_true_eq, decide_eq_false_iff_not, Bool.not_eq_true', Bool.not_eq_false', Nat.reduceLeDiff, Nat.reduceAdd, Nat.zero_le, Bool.not_true, Bool.not_false]
        obtain ⟨d, hd, _, hm'⟩ := look_mem hm
        have hml := (s.prt d hd m hm').1
        refine lc_pure (L := m.2) (enc := PV.str) (fun p => decide (p ∉ B)) PV.str ?_ ?_ (by simp [SZ]; omega) fun h4 k4 => ?_
        · refine wI_itrT ?_
          simp only [wE_var, wE_non, wE_bl, wE_int, wE_str, wE_tup, wE_lst, wE_bin, wE_cmp, wE_and, wE_or, wE_not, wE_ite, wE_idx, wE_call, wE_bi, wE_mt, wL_nil, wL_cons, wR_some, wV_some, wB_some, wG_some, wX_some, wT_bl, wT_int, wT_non, wT_tup, bindP, bindPs, wipeP, List.getElem?_cons_zero, List.getElem?_cons_succ, List.set_cons_zero, List.set_cons_succ, List.length_cons, List.length_nil, pbin_add, pbin_sub, pbi_int, pbi_lenT, pbi_tupT, isTup_tup, isTup_str, isTup_int, isTup_bl, isTup_non, isBl_bl, isBl_int, isBl_str, isInt_int, isInt_str, isStr_str, pcmp_lt, pcmp_le, pcmp_gt, pcmp_ge, pcmp_eqI, pcmp_neI, pcmp_eqS, pcmp_neS, pcmp_eqB, pcmp_isN, pcmp_isT, pcmp_isS, pcmp_isI, pcmp_isB, pcmp_isnotN, pcmp_isnotT, pcmp_isnotS, seq_tup, pidx_tup, atP_0, atP_1, atP_2, atP_3, SZ_le, SZ_lt, true_implies, false_implies, Bool.true_eq_false, Bool.false_eq_true, and_true, true_and, decide_eq_true_eq, decide_eq_false_iff_not, Bool.not_eq_true', Bool.not_eq_false', Nat.reduceLeDiff, Nat.reduceAdd, Nat.zero_le, Bool.not_true, Bool.not_false]
          exact ⟨_, rfl, rfl, Hx.refl⟩
        · intro p hp h4 k4
          refine ⟨_, rfl, ?_⟩
          have e5 := pnotin_strs (s := p) (k4.seq (seq_at h3A))
          simp only [wE_var, wE_non, wE_bl, wE_int, wE_str, wE_tup, wE_lst, wE_bin, wE_cmp, wE_and, wE_or, wE_not, wE_ite, wE_idx, wE_call, wE_bi, wE_mt, wL_nil, wL_cons, wR_some, wV_some, wB_some, wG_some, wX_some, wT_bl, wT_int, wT_non, wT_tup, bindP, bindPs, wipeP, List.getElem?_cons_zero, List.getElem?_cons_succ, List.set_cons_zero, List.set_cons_succ, List.length_cons, List.length_nil, pbin_add, pbin_sub, pbi_int, pbi_lenT, pbi_tupT, isTup_tup, isTup_str, isTup_int, isTup_bl, isTup_non, isBl_bl, isBl_int, isBl_str, isInt_int, isInt_str, isStr_str, pcmp_lt, pcmp_le, pcmp_gt, pcmp_ge, pcmp_eqI, pcmp_neI, pcmp_eqS, pcmp_neS, pcmp_eqB, pcmp_isN, pcmp_isT, pcmp_isS, pcmp_isI, pcmp_isB, pcmp_isnotN, pcmp_isnotT, pcmp_isnotS, seq_tup, pidx_tup, atP_0, atP_1, atP_2, atP_3, SZ_le, SZ_lt, true_implies, false_implies, Bool.true_eq_false, Bool.false_eq_true, and_true, true_and, decide_eq_true_eq, decide_eq_false_iff_not, Bool.not_eq_true', Bool.not_eq_false', Nat.reduceLeDiff, Nat.reduceAdd, Nat.zero_le, Bool.not_true, Bool.not_false, e5]
          exact ⟨by simp, Hx.refl, fun _ => Hx.refl⟩
        · have b1 := (k4.app (t := [AO.lst ((m.2.filter fun p => decide (p ∉ B)).map PV.str)])) _ _ h3A
          have b2 : (h4 ++ [AO.lst ((m.2.filter fun p => decide (p ∉ B)).map PV.str)])[h4.length]? = some (.lst ((m.2.filter fun p => decide (p ∉ B)).map PV.str)) := by simp
          unfold lrow at o4
          rw [List.length_append] at o4
          have b3 := pbin_addL b1 b2 (by simp only [List.length_map, SZ]; omega)
          simp only [wE_var, wE_non, wE_bl, wE_int, wE_str, wE_tup, wE_lst, wE_bin, wE_cmp, wE_and, wE_or, wE_not, wE_ite, wE_idx, wE_call, wE_bi, wE_mt, wL_nil, wL_cons, wR_some, wV_some, wB_some, wG_some, wX_some, wT_bl, wT_int, wT_non, wT_tup, bindP, bindPs, wipeP, List.getElem?_cons_zero, List.getElem?_cons_succ, List.set_cons_zero, List.set_cons_succ, List.length_cons, List.length_nil, pbin_add, pbin_sub, pbi_int, pbi_lenT, pbi_tupT, isTup_tup, isTup_str, isTup_int, isTup_bl, isTup_non, isBl_bl, isBl_int, isBl_str, isInt_int, isInt_str, isStr_str, pcmp_lt, pcmp_le, pcmp_gt, pcmp_ge, pcmp_eqI, pcmp_neI, pcmp_eqS, pcmp_neS, pcmp_eqB, pcmp_isN, pcmp_isT, pcmp_isS, pcmp_isI, pcmp_isB, pcmp_isnotN, pcmp_isnotT, pcmp_isnotS, seq_tup, pidx_tup, atP_0, atP_1, atP_2, atP_3, SZ_le, SZ_lt, true_implies, false_implies, Bool.true_eq_false, Bool.false_eq_true, and_true, true_and, decide_eq_true_eq, decide_eq_false_iff_not, Bool.not_eq_true', Bool.not_eq_false', Nat.reduceLeDiff, Nat.reduceAdd, Nat.zero_le, Bool.not_true, Bool.not_false, b3]
          refine wS_nil ⟨_, _, _, rfl, ?_, (k3.trans k4).app.app⟩
          rw [List.foldl_append, hB, List.foldl_cons, List.foldl_nil]
          unfold lrow
          rw [List.map_append]
          simp
      · rintro σ h3 ⟨l, a5, a6, rfl, h3A, k3⟩
        refine wS_nil ⟨_, _, _, _, _, rfl, h3A, ?_, k3, rows_ok s hx _ _ (fun _ h => h) oA⟩
        rw [List.foldl_append, ← eA]; rfl
    · rintro σ h2 ⟨l, a4, a5, a6, A, rfl, hA, eA, k2, oA⟩
      have el : A = liter D a (pre.length + 1) := by rw [eA, ← hK]; rfl
      rw [el] at hA oA
      refine wS_nil ⟨_, _, _, _, _, rfl, ?_, (k.trans Hx.refl.app).trans k2, ?_⟩
      · rw [List.length_append]; exact hA
      · rw [List.length_append]; exact oA
  · rintro σ h ⟨l, a3, a4, a5, a6, rfl, hk, k, o⟩
    rw [List.length_range] at hk o
    generalize hK : liter D a 6 = K at hk o ⊢
    have hKl := o.len s ha
    refine wS_cons (wS_asg rfl ?_)
    simp only [wE_var, wE_non, wE_bl, wE_int, wE_str, wE_tup, wE_lst, wE_bin, wE_cmp, wE_and, wE_or, wE_not, wE_ite, wE_idx, wE_call, wE_bi, wE_mt, wL_nil, wL_cons, wR_some, wV_some, wB_some, wG_some, wX_some, wT_bl, wT_int, wT_non, wT_tup, bindP, bindPs, wipeP, List.getElem?_cons_zero, List.getElem?_cons_succ, List.set_cons_zero, List.set_cons_succ, List.length_cons, List.length_nil, pbin_add, pbin_sub, pbi_int, pbi_lenT, pbi_tupT, isTup_tup, isTup_str, isTup_int, isTup_bl, isTup_non, isBl_bl, isBl_int, isBl_str, isInt_int, isInt_str, isStr_str, pcmp_lt, pcmp_le, pcmp_gt, pcmp_ge, pcmp_eqI, pcmp_neI, pcmp_eqS, pcmp_neS, pcmp_eqB, pcmp_isN, pcmp_isT, pcmp_isS, pcmp_isI, pcmp_isB, pcmp_isnotN, pcmp_isnotT, pcmp_isnotS, seq_tup, pidx_tup, atP_0, atP_1, atP_2, atP_3, SZ_le, SZ_lt, true_implies, false_implies, Bool.true_eq_false, Bool.false_eq_true, and_true, true_and, decide_eq_true_eq, decide_eq_false_iff_not, Bool.not_eq_true', Bool.not_eq_false', Nat.reduceLeDiff, Nat.reduceAdd, Nat.zero_le, Bool.not_true, Bool.not_false]
    have hO : (onceG [] K).length ≤ 6 := by
      have := nodup_len (onceG [] K) (uni D) (onceG_nodup K [] List.nodup_nil) fun x hx => by
        rcases (onceG_mem K [] x).1 hx with z | z
        · exact absurd z List.not_mem_nil
        · exact reach_uni s ha (o.r x z)
      have hh := s.hi
      unfold uni at this
      simp at this
      omega
    have hS : (sortSg (onceG [] K)).length ≤ 6 := by rw [(sortSg_perm _).length_eq]; exact hO
    have e1 := pbi_sset (h := h ++ [AO.lst []]) (l := l) (ks := K) (Hx.refl.app _ _ hk) (by omega)
    generalize sortSg (onceG [] K) = S at hS e1 ⊢
    have k1 : Hx h0 (h ++ [AO.lst []]) := k.app
    have hf1 : (h ++ [AO.lst []])[h.length]? = some (.lst (([] : List Sg).map PV.str)) := by simp
    generalize h.length = lf at hf1
    generalize h ++ [AO.lst []] = h1 at k1 hf1 e1
    have hs1 : (h1 ++ [AO.lst (S.map PV.str)])[h1.length]? = some (.lst (S.map PV.str)) := by simp
    refine wS_cons (wS_for S PV.str (fun h' => Hx (h1 ++ [AO.lst (S.map PV.str)]) h') (fun pre2 σ h' => ∃ (lf : Nat) (a4 : Option PV), σ = [some (prog D), some (.str a), some (.ref l), a3, a4, a5, a6, some (.ref lf), none] ∧ h'[lf]? = some (.lst ((pre2.flatMap (mkrs D)).map .str)) ∧ Hx (h1 ++ [AO.lst (S.map PV.str)]) h') ?_ (fun _ _ _ ⟨_, _, _, _, k⟩ => k) ?_ ?_)
    · refine wI_itrL ?_
      simp only [wE_var, wE_non, wE_bl, wE_int, wE_str, wE_tup, wE_lst, wE_bin, wE_cmp, wE_and, wE_or, wE_not, wE_ite, wE_idx, wE_call, wE_bi, wE_mt, wL_nil, wL_cons, wR_some, wV_some, wB_some, wG_some, wX_some, wT_bl, wT_int, wT_non, wT_tup, bindP, bindPs, wipeP, List.getElem?_cons_zero, List.getElem?_cons_succ, List.set_cons_zero, List.set_cons_succ, List.length_cons, List.length_nil, pbin_add, pbin_sub, pbi_int, pbi_lenT, pbi_tupT, isTup_tup, isTup_str, isTup_int, isTup_bl, isTup_non, isBl_bl, isBl_int, isBl_str, isInt_int, isInt_str, isStr_str, pcmp_lt, pcmp_le, pcmp_gt, pcmp_ge, pcmp_eqI, pcmp_neI, pcmp_eqS, pcmp_neS, pcmp_eqB, pcmp_isN, pcmp_isT, pcmp_isS, pcmp_isI, pcmp_isB, pcmp_isnotN, pcmp_isnotT, pcmp_isnotS, seq_tup, pidx_tup, atP_0, atP_1, atP_2, atP_3, SZ_le, SZ_lt, true_implies, false_implies, Bool.true_eq_false, Bool.false_eq_true, and_true, true_and, decide_eq_true_eq, decide_eq_false_iff_not, Bool.not_eq_true', Bool.not_eq_false', Nat.reduceLeDiff, Nat.reduceAdd, Nat.zero_le, Bool.not_true, Bool.not_false, e1]
      exact ⟨_, _, rfl, seq_new, .inr (.inl ⟨_, rfl, fun h' k' => k'.seq (seq_at hs1)⟩), _, _, rfl, Hx.refl.app _ _ hf1, Hx.refl⟩
    · rintro pre2 x post2 e2 σ h2 ⟨lf, a4, rfl, hA, k2⟩
      have hpl : pre2.length ≤ 6 := by
        have : S.length = pre2.length + (post2.length + 1) := by rw [e2]; simp
        omega
      have hfl := flat_len s pre2
      have hxl := mkrs_len s x
      refine ⟨_, rfl, ?_⟩
      show wS P _ _ [some (prog D), some (.str a), some (.ref l), a3, some (.str x), a5, a6, some (.ref lf), none] h2 _ _
      refine wS_cons (wS_asg rfl ?_)
      simp only [wE_var, wE_non, wE_bl, wE_int, wE_str, wE_tup, wE_lst, wE_bin, wE_cmp, wE_and, wE_or, wE_not, wE_ite, wE_idx, wE_call, wE_bi, wE_mt, wL_nil, wL_cons, wR_some, wV_some, wB_some, wG_some, wX_some, wT_bl, wT_int, wT_non, wT_tup, bindP, bindPs, wipeP, List.getElem?_cons_zero, List.getElem?_cons_succ, List.set_cons_zero, List.set_cons_succ, List.length_cons, List.length_nil, pbin_add, pbin_sub, pbi_int, pbi_lenT, pbi_tupT, isTup_tup, isTup_str, isTup_int, isTup_bl, isTup_non, isBl_bl, isBl_int, isBl_str, isInt_int, isInt_str, isStr_str, pcmp_lt, pcmp_le, pcmp_gt, pcmp_ge, pcmp_eqI, pcmp_neI, pcmp_eqS, pcmp_neS, pcmp_eqB, pcmp_isN, pcmp_isT, pcmp_isS, pcmp_isI, pcmp_isB, pcmp_isnotN, pcmp_isnotT, pcmp_isnotS, seq_tup, pidx_tup, atP_0, atP_1, atP_2, atP_3, SZ_le, SZ_lt, true_implies, false_implies, Bool.true_eq_false, Bool.false_eq_true, and_true, true_and, decide_eq_true_eq, decide_eq_false_iff_not, Bool.not_eq_true', Bool.not_eq_false', Nat.reduceLeDiff, Nat.reduceAdd, Nat.zero_le, Bool.not_true, Bool.not_false]
      refine lc_pure (L := lookD D x) (enc := encM) (fun _ => true) (fun m => .str m.1) ?_ ?_ (by simp [SZ]; omega) fun h4 k4 => ?_
      · refine wI_itrT ?_
        refine get_ok s rfl rfl fun h' k' => ?_
        exact ⟨_, rfl, rfl, k'⟩
      · intro m hm h4 k4
        refine ⟨_, rfl, ?_⟩
        simp only [wE_var, wE_non, wE_bl, wE_int, wE_str, wE_tup, wE_lst, wE_bin, wE_cmp, wE_and, wE_or, wE_not, wE_ite, wE_idx, wE_call, wE_bi, wE_mt, wL_nil, wL_cons, wR_some, wV_some, wB_some, wG_some, wX_some, wT_bl, wT_int, wT_non, wT_tup, bindP, bindPs, wipeP, List.getElem?_cons_zero, List.getElem?_cons_succ, List.set_cons_zero, List.set_cons_succ, List.length_cons, List.length_nil, pbin_add, pbin_sub, pbi_int, pbi_lenT, pbi_tupT, isTup_tup, isTup_str, isTup_int, isTup_bl, isTup_non, isBl_bl, isBl_int, isBl_str, isInt_int, isInt_str, isStr_str, pcmp_lt, pcmp_le, pcmp_gt, pcmp_ge, pcmp_eqI, pcmp_neI, pcmp_eqS, pcmp_neS, pcmp_eqB, pcmp_isN, pcmp_isT, pcmp_isS, pcmp_isI, pcmp_isB, pcmp_isnotN, pcmp_isnotT, pcmp_isnotS, seq_tup, pidx_tup, atP_0, atP_1, atP_2, atP_3, SZ_le, SZ_lt, true_implies, false_implies, Bool.true_eq_false, Bool.false_eq_true, and_true, true_and, decide_eq_true_eq, decide_eq_false_iff_not, Bool.not_eq_true', Bool.not_eq_false', Nat.reduceLeDiff, Nat.reduceAdd, Nat.zero_le, Bool.not_true, Bool.not_false]
        exact ⟨Hx.refl, Hx.refl⟩
      · have em : ((lookD D x).filter fun _ => true).map (fun m : Mk => PV.str m.1) = (mkrs D x).map PV.str := by
          rw [List.filter_eq_self.mpr (fun _ _ => rfl)]; unfold mkrs; rw [List.map_map]; rfl
        rw [em]
        have b1 := (k4.app (t := [AO.lst ((mkrs D x).map PV.str)])) _ _ hA
        have b2 : (h4 ++ [AO.lst ((mkrs D x).map PV.str)])[h4.length]? = some (.lst ((mkrs D x).map PV.str)) := by simp
        have hml : (mkrs D x).length ≤ 3 := by unfold mkrs; rw [List.length_map]; exact hxl
        have b3 := pbin_addL b1 b2 (by simp only [List.length_map, SZ]; omega)
        simp only [wE_var, wE_non, wE_bl, wE_int, wE_str, wE_tup, wE_lst, wE_bin, wE_cmp, wE_and, wE_or, wE_not, wE_ite, wE_idx, wE_call, wE_bi, wE_mt, wL_nil, wL_cons, wR_some, wV_some, wB_some, wG_some, wX_some, wT_bl, wT_int, wT_non, wT_tup, bindP, bindPs, wipeP, List.getElem?_cons_zero, List.getElem?_cons_succ, List.set_cons_zero, List.set_cons_succ, List.length_cons, List.length_nil, pbin_add, pbin_sub, pbi_int, pbi_lenT, pbi_tupT, isTup_tup, isTup_str, isTup_int, isTup_bl, isTup_non, isBl_bl, isBl_int, isBl_str, isInt_int, isInt_str, isStr_str, pcmp_lt, pcmp_le, pcmp_gt, pcmp_ge, pcmp_eqI, pcmp_neI, pcmp_eqS, pcmp_neS, pcmp_eqB, pcmp_isN, pcmp_isT, pcmp_isS, pcmp_isI, pcmp_isB, pcmp_isnotN, pcmp_isnotT, pcmp_isnotS, seq_tup, pidx_tup, atP_0, atP_1, atP_2, atP_3, SZ_le, SZ_lt, true_implies, false_implies, Bool.true_eq_false, Bool.false_eq_true, and_true, true_and, decide_eq_true_eq, decide_eq_false_iff_not, Bool.not_eq_true', Bool.not_eq_false', Nat.reduceLeDiff, Nat.reduceAdd, Nat.zero_le, Bool.not_true, Bool.not_false, b3]
        refine wS_nil ⟨_, _, rfl, ?_, (k2.trans k4).app.app⟩
        rw [List.flatMap_append, List.map_append]
        simp
    · rintro σ h2 ⟨lf, a4, rfl, hA, k2⟩
      have hfl := flat_len s S
      refine wS_cons (wS_ret ?_)
      simp only [wE_var, wE_non, wE_bl, wE_int, wE_str, wE_tup, wE_lst, wE_bin, wE_cmp, wE_and, wE_or, wE_not, wE_ite, wE_idx, wE_call, wE_bi, wE_mt, wL_nil, wL_cons, wR_some, wV_some, wB_some, wG_some, wX_some, wT_bl, wT_int, wT_non, wT_tup, bindP, bindPs, wipeP, List.getElem?_cons_zero, List.getElem?_cons_succ, List.set_cons_zero, List.set_cons_succ, List.length_cons, List.length_nil, pbin_add, pbin_sub, pbi_int, pbi_lenT, pbi_tupT, isTup_tup, isTup_str, isTup_int, isTup_bl, isTup_non, isBl_bl, isBl_int, isBl_str, isInt_int, isInt_str, isStr_str, pcmp_lt, pcmp_le, pcmp_gt, pcmp_ge, pcmp_eqI, pcmp_neI, pcmp_eqS, pcmp_neS, pcmp_eqB, pcmp_isN, pcmp_isT, pcmp_isS, pcmp_isI, pcmp_isB, pcmp_isnotN, pcmp_isnotT, pcmp_isnotS, seq_tup, pidx_tup, atP_0, atP_1, atP_2, atP_3, SZ_le, SZ_lt, true_implies, false_implies, Bool.true_eq_false, Bool.false_eq_true, and_true, true_and, decide_eq_true_eq, decide_eq_false_iff_not, Bool.not_eq_true', Bool.not_eq_false', Nat.reduceLeDiff, Nat.reduceAdd, Nat.zero_le, Bool.not_true, Bool.not_false, pbi_sorted hA (by omega)]
      exact ⟨_, rfl, by simp, ((k1.trans Hx.refl.app).trans k2).app⟩
end Mi.K6
set_option Elab.async false
set_option linter.all false
set_option maxRecDepth 100000
set_option maxHeartbeats 8000000
namespace Mi.K6
open Mi
theorem Shape.num {D : List Dt} (s : Shape D) : num ∉ D.map (·.1) ∧ tru ∉ D.map (·.1) := by
  constructor
  · intro h
    obtain ⟨d, hd, e⟩ := List.mem_map.mp h
    obtain ⟨k, hk, e2⟩ := List.mem_iff_getElem.mp hd
    have := s.nam k d (by rw [← e2]; exact List.getElem?_eq_getElem hk)
    rw [e] at this
    have := congrArg List.length this
    cases this
  · intro h
    obtain ⟨d, hd, e⟩ := List.mem_map.mp h
    obtain ⟨k, hk, e2⟩ := List.mem_iff_getElem.mp hd
    have := s.nam k d (by rw [← e2]; exact List.getElem?_eq_getElem hk)
    rw [e] at this
    have := congrArg List.length this
    cases this
theorem find_head {α : Type} (f : α → Bool) : ∀ l : List α, l.find? f = (l.filter f).head?
  | [] => rfl
  | a :: l => by
    rw [List.find?_cons, List.filter_cons]
    cases h : f a with
    | true => rfl
    | false => simpa using find_head f l
theorem reach_tru {D : List Dt} (s : Shape D) {x : Sg} (h : Reach D tru x) : x = tru := by
  induction h with
  | base => rfl
  | step _ hm _ ih =>
    subst ih
    rw [look_none s.num.2] at hm
    cases hm
theorem good_strs {ks : List Sg} (h : ks.length ≤ 1000) : good 1 (.tup (ks.map .str)) := ⟨by rw [List.length_map]; exact h, fun x hx => by
  obtain ⟨k, _, rfl⟩ := List.mem_map.mp hx
  exact trivial⟩
theorem good_str (d : Nat) (k : Sg) : good d (.str k) := by cases d <;> exact trivial
theorem good_mks {M : List Mk} (h : M.length ≤ 1000 ∧ ∀ m ∈ M, m.2.length ≤ 1000) : good 3 (.tup (M.map encM)) := ⟨by rw [List.length_map]; exact h.1, fun x hx => by
  obtain ⟨m, hm, rfl⟩ := List.mem_map.mp hx
  refine ⟨by simp, fun y hy => ?_⟩
  rcases List.mem_cons.mp hy with z | z
  · subst z; exact trivial
  · rw [List.mem_singleton.mp z]; exact good_strs (h.2 m hm)⟩
theorem plain6 : Plain P 10 23 63 := by
  intro ns hn hbits x h hx
  have main : wC (callF P (9 + 1)) 23 [x] h (fun v _ => v = .bl true) := by
    refine wC_of (d := ⟨1, 13, b23⟩) rfl rfl ?_
    show wS P _ b23 [some x, none, none, none, none, none, none, none, none, none, none, none, none] h _ _
    refine wS_cons (wS_asg rfl ?_)
    simp only [wE_var, wE_non, wE_bl, wE_int, wE_str, wE_tup, wE_lst, wE_bin, wE_cmp, wE_and, wE_or, wE_not, wE_ite, wE_idx, wE_call, wE_bi, wE_mt, wL_nil, wL_cons, wR_some, wV_some, wB_some, wG_some, wX_some, wT_bl, wT_int, wT_non, wT_tup, bindP, bindPs, wipeP, List.getElem?_cons_zero, List.getElem?_cons_succ, List.set_cons_zero, List.set_cons_succ, List.length_cons, List.length_nil, pbin_add, pbin_sub, pbi_int, pbi_lenT, pbi_tupT, isTup_tup, isTup_str, isTup_int, isTup_bl, isTup_non, isBl_bl, isBl_int, isBl_str, isInt_int, isInt_str, isStr_str, pcmp_lt, pcmp_le, pcmp_gt, pcmp_ge, pcmp_eqI, pcmp_neI, pcmp_eqS, pcmp_neS, pcmp_eqB, pcmp_isN, pcmp_isT, pcmp_isS, pcmp_isI, pcmp_isB, pcmp_isnotN, pcmp_isnotT, pcmp_isnotS, seq_tup, pidx_tup, atP_0, atP_1, atP_2, atP_3, SZ_le, SZ_lt, true_implies, false_implies, Bool.true_eq_false, Bool.false_eq_true, and_true, true_and, decide_eq_true_eq, decide_eq_false_iff_not, Bool.not_eq_true', Bool.not_eq_false', Nat.reduceLeDiff, Nat.reduceAdd, Nat.zero_le, Bool.not_true, Bool.not_false]
    refine wC_mono (box_ok (n := 6) hx) fun v h1 ⟨b, d, ds, hv, B, k1⟩ => ?_
    subst hv
    refine wS_cons (wS_asg rfl ?_)
    simp only [wE_var, wE_non, wE_bl, wE_int, wE_str, wE_tup, wE_lst, wE_bin, wE_cmp, wE_and, wE_or, wE_not, wE_ite, wE_idx, wE_call, wE_bi, wE_mt, wL_nil, wL_cons, wR_some, wV_some, wB_some, wG_some, wX_some, wT_bl, wT_int, wT_non, wT_tup, bindP, bindPs, wipeP, List.getElem?_cons_zero, List.getElem?_cons_succ, List.set_cons_zero, List.set_cons_succ, List.length_cons, List.length_nil, pbin_add, pbin_sub, pbi_int, pbi_lenT, pbi_tupT, isTup_tup, isTup_str, isTup_int, isTup_bl, isTup_non, isBl_bl, isBl_int, isBl_str, isInt_int, isInt_str, isStr_str, pcmp_lt, pcmp_le, pcmp_gt, pcmp_ge, pcmp_eqI, pcmp_neI, pcmp_eqS, pcmp_neS, pcmp_eqB, pcmp_isN, pcmp_isT, pcmp_isS, pcmp_isI, pcmp_isB, pcmp_isnotN, pcmp_isnotT, pcmp_isnotS, seq_tup, pidx_tup, atP_0, atP_1, atP_2, atP_3, SZ_le, SZ_lt, true_implies, false_implies, Bool.true_eq_false, Bool.false_eq_true, and_true, true_and, decide_eq_true_eq, decide_eq_false_iff_not, Bool.not_eq_true', Bool.not_eq_false', Nat.reduceLeDiff, Nat.reduceAdd, Nat.zero_le, Bool.not_true, Bool.not_false]
    refine wC_mono (held_ok (n := 6) B) fun v h2 ⟨D, s, hv⟩ => ?_
    subst hv
    clear k1 B hx
    have hD := s.hi
    refine wS_cons (wS_asg rfl ?_)
    simp only [wE_var, wE_non, wE_bl, wE_int, wE_str, wE_tup, wE_lst, wE_bin, wE_cmp, wE_and, wE_or, wE_not, wE_ite, wE_idx, wE_call, wE_bi, wE_mt, wL_nil, wL_cons, wR_some, wV_some, wB_some, wG_some, wX_some, wT_bl, wT_int, wT_non, wT_tup, bindP, bindPs, wipeP, List.getElem?_cons_zero, List.getElem?_cons_succ, List.set_cons_zero, List.set_cons_succ, List.length_cons, List.length_nil, pbin_add, pbin_sub, pbi_int, pbi_lenT, pbi_tupT, isTup_tup, isTup_str, isTup_int, isTup_bl, isTup_non, isBl_bl, isBl_int, isBl_str, isInt_int, isInt_str, isStr_str, pcmp_lt, pcmp_le, pcmp_gt, pcmp_ge, pcmp_eqI, pcmp_neI, pcmp_eqS, pcmp_neS, pcmp_eqB, pcmp_isN, pcmp_isT, pcmp_isS, pcmp_isI, pcmp_isB, pcmp_isnotN, pcmp_isnotT, pcmp_isnotS, seq_tup, pidx_tup, atP_0, atP_1, atP_2, atP_3, SZ_le, SZ_lt, true_implies, false_implies, Bool.true_eq_false, Bool.false_eq_true, and_true, true_and, decide_eq_true_eq, decide_eq_false_iff_not, Bool.not_eq_true', Bool.not_eq_false', Nat.reduceLeDiff, Nat.reduceAdd, Nat.zero_le, Bool.not_true, Bool.not_false]
    show wS P _ _ [some x, some (.ref b), some (.tup (D.map encD)), some (prog D), none, none, none, none, none, none, none, none, none] h2 _ _
    refine wS_cons (wS_asg rfl ?_)
    simp only [wE_var, wE_non, wE_bl, wE_int, wE_str, wE_tup, wE_lst, wE_bin, wE_cmp, wE_and, wE_or, wE_not, wE_ite, wE_idx, wE_call, wE_bi, wE_mt, wL_nil, wL_cons, wR_some, wV_some, wB_some, wG_some, wX_some, wT_bl, wT_int, wT_non, wT_tup, bindP, bindPs, wipeP, List.getElem?_cons_zero, List.getElem?_cons_succ, List.set_cons_zero, List.set_cons_succ, List.length_cons, List.length_nil, pbin_add, pbin_sub, pbi_int, pbi_lenT, pbi_tupT, isTup_tup, isTup_str, isTup_int, isTup_bl, isTup_non, isBl_bl, isBl_int, isBl_str, isInt_int, isInt_str, isStr_str, pcmp_lt, pcmp_le, pcmp_gt, pcmp_ge, pcmp_eqI, pcmp_neI, pcmp_eqS, pcmp_neS, pcmp_eqB, pcmp_isN, pcmp_isT, pcmp_isS, pcmp_isI, pcmp_isB, pcmp_isnotN, pcmp_isnotT, pcmp_isnotS, seq_tup, pidx_tup, atP_0, atP_1, atP_2, atP_3, SZ_le, SZ_lt, true_implies, false_implies, Bool.true_eq_false, Bool.false_eq_true, and_true, true_and, decide_eq_true_eq, decide_eq_false_iff_not, Bool.not_eq_true', Bool.not_eq_false', Nat.reduceLeDiff, Nat.reduceAdd, Nat.zero_le, Bool.not_true, Bool.not_false]
    refine wC_mono (filled_ok (n := 8) (wo := []) (w := h2.length) s (by simp)) fun v h3 ⟨l4, hv, hF, k3⟩ => ?_
    subst hv
    have hiff : ∀ k, hv D 5 k [] = true ↔ k ∈ filled D [] := hv_iff s List.not_mem_nil List.not_mem_nil
    refine wS_cons (wS_asg rfl ?_)
    simp only [wE_var, wE_non, wE_bl, wE_int, wE_str, wE_tup, wE_lst, wE_bin, wE_cmp, wE_and, wE_or, wE_not, wE_ite, wE_idx, wE_call, wE_bi, wE_mt, wL_nil, wL_cons, wR_some, wV_some, wB_some, wG_some, wX_some, wT_bl, wT_int, wT_non, wT_tup, bindP, bindPs, wipeP, List.getElem?_cons_zero, List.getElem?_cons_succ, List.set_cons_zero, List.set_cons_succ, List.length_cons, List.length_nil, pbin_add, pbin_sub, pbi_int, pbi_lenT, pbi_tupT, isTup_tup, isTup_str, isTup_int, isTup_bl, isTup_non, isBl_bl, isBl_int, isBl_str, isInt_int, isInt_str, isStr_str, pcmp_lt, pcmp_le, pcmp_gt, pcmp_ge, pcmp_eqI, pcmp_neI, pcmp_eqS, pcmp_neS, pcmp_eqB, pcmp_isN, pcmp_isT, pcmp_isS, pcmp_isI, pcmp_isB, pcmp_isnotN, pcmp_isnotT, pcmp_isnotS, seq_tup, pidx_tup, atP_0, atP_1, atP_2, atP_3, SZ_le, SZ_lt, true_implies, false_implies, Bool.true_eq_false, Bool.false_eq_true, and_true, true_and, decide_eq_true_eq, decide_eq_false_iff_not, Bool.not_eq_true', Bool.not_eq_false', Nat.reduceLeDiff, Nat.reduceAdd, Nat.zero_le, Bool.not_true, Bool.not_false]
    refine lc_pure (L := D) (enc := encD) (fun d => decide (d.1 ∉ filled D [])) (fun d => .str d.1) ?_ ?_ (by simp [SZ]; omega) fun h4 k4 => ?_
    · refine wI_itrT ?_
      simp only [wE_var, wE_non, wE_bl, wE_int, wE_str, wE_tup, wE_lst, wE_bin, wE_cmp, wE_and, wE_or, wE_not, wE_ite, wE_idx, wE_call, wE_bi, wE_mt, wL_nil, wL_cons, wR_some, wV_some, wB_some, wG_some, wX_some, wT_bl, wT_int, wT_non, wT_tup, bindP, bindPs, wipeP, List.getElem?_cons_zero, List.getElem?_cons_succ, List.set_cons_zero, List.set_cons_succ, List.length_cons, List.length_nil, pbin_add, pbin_sub, pbi_int, pbi_lenT, pbi_tupT, isTup_tup, isTup_str, isTup_int, isTup_bl, isTup_non, isBl_bl, isBl_int, isBl_str, isInt_int, isInt_str, isStr_str, pcmp_lt, pcmp_le, pcmp_gt, pcmp_ge, pcmp_eqI, pcmp_neI, pcmp_eqS, pcmp_neS, pcmp_eqB, pcmp_isN, pcmp_isT, pcmp_isS, pcmp_isI, pcmp_isB, pcmp_isnotN, pcmp_isnotT, pcmp_isnotS, seq_tup, pidx_tup, atP_0, atP_1, atP_2, atP_3, SZ_le, SZ_lt, true_implies, false_implies, Bool.true_eq_false, Bool.false_eq_true, and_true, true_and, decide_eq_true_eq, decide_eq_false_iff_not, Bool.not_eq_true', Bool.not_eq_false', Nat.reduceLeDiff, Nat.reduceAdd, Nat.zero_le, Bool.not_true, Bool.not_false]
      exact ⟨_, rfl, rfl, Hx.refl⟩
    · intro d hd h4 k4
      refine ⟨_, rfl, ?_⟩
      have e1 := pnotin_strs (s := d.1) (k4.seq (seq_at hF))
      simp only [wE_var, wE_non, wE_bl, wE_int, wE_str, wE_tup, wE_lst, wE_bin, wE_cmp, wE_and, wE_or, wE_not, wE_ite, wE_idx, wE_call, wE_bi, wE_mt, wL_nil, wL_cons, wR_some, wV_some, wB_some, wG_some, wX_some, wT_bl, wT_int, wT_non, wT_tup, bindP, bindPs, wipeP, List.getElem?_cons_zero, List.getElem?_cons_succ, List.set_cons_zero, List.set_cons_succ, List.length_cons, List.length_nil, pbin_add, pbin_sub, pbi_int, pbi_lenT, pbi_tupT, isTup_tup, isTup_str, isTup_int, isTup_bl, isTup_non, isBl_bl, isBl_int, isBl_str, isInt_int, isInt_str, isStr_str, pcmp_lt, pcmp_le, pcmp_gt, pcmp_ge, pcmp_eqI, pcmp_neI, pcmp_eqS, pcmp_neS, pcmp_eqB, pcmp_isN, pcmp_isT, pcmp_isS, pcmp_isI, pcmp_isB, pcmp_isnotN, pcmp_isnotT, pcmp_isnotS, seq_tup, pidx_tup, atP_0, atP_1, atP_2, atP_3, SZ_le, SZ_lt, true_implies, false_implies, Bool.true_eq_false, Bool.false_eq_true, and_true, true_and, decide_eq_true_eq, decide_eq_false_iff_not, Bool.not_eq_true', Bool.not_eq_false', Nat.reduceLeDiff, Nat.reduceAdd, Nat.zero_le, Bool.not_true, Bool.not_false, e1]
      exact ⟨by simp, Hx.refl, fun _ => Hx.refl⟩
    · have eE : (D.filter fun d => decide (d.1 ∉ filled D [])).map (fun d : Dt => PV.str d.1) = ((D.map (·.1)).filter fun k => !hv D 5 k []).map PV.str := by
        rw [List.filter_map, List.map_map]
        congr 1
        apply List.filter_congr
        intro d hd
        show decide (d.1 ∉ filled D []) = !hv D 5 d.1 []
        rw [Bool.eq_iff_iff, decide_eq_true_iff, Bool.not_eq_true', ← hiff, Bool.not_eq_true]
      rw [eE]
      have hfault : fault D = match ((D.map (·.1)).filter fun k => !hv D 5 k []).head? with | none => .non | some k => .tup [.str noval, .str k] := by
        unfold fault
        rw [find_head]
        try (cases ((D.map (·.1)).filter fun k => !hv D 5 k []).head? <;> rfl)
      have hall : (D.map (·.1)).filter (fun k => !hv D 5 k []) = [] → ∀ k ∈ D.map (·.1), hv D 5 k [] = true := fun z k hk => by
        rw [List.filter_eq_nil_iff] at z
        simpa using z k hk
      generalize (D.map (·.1)).filter (fun k => !hv D 5 k []) = Em at hfault hall ⊢
      have hl5 : (h4 ++ [AO.lst (Em.map PV.str)])[h4.length]? = some (.lst (Em.map PV.str)) := by simp
      generalize h4.length = l5 at hl5 ⊢
      generalize h4 ++ [AO.lst (Em.map PV.str)] = h5 at hl5 ⊢
      clear k4 hF k3
      refine wS_cons (wS_cond ?_)
      simp only [wE_var, wE_non, wE_bl, wE_int, wE_str, wE_tup, wE_lst, wE_bin, wE_cmp, wE_and, wE_or, wE_not, wE_ite, wE_idx, wE_call, wE_bi, wE_mt, wL_nil, wL_cons, wR_some, wV_some, wB_some, wG_some, wX_some, wT_bl, wT_int, wT_non, wT_tup, bindP, bindPs, wipeP, List.getElem?_cons_zero, List.getElem?_cons_succ, List.set_cons_zero, List.set_cons_succ, List.length_cons, List.length_nil, pbin_add, pbin_sub, pbi_int, pbi_lenT, pbi_tupT, isTup_tup, isTup_str, isTup_int, isTup_bl, isTup_non, isBl_bl, isBl_int, isBl_str, isInt_int, isInt_str, isStr_str, pcmp_lt, pcmp_le, pcmp_gt, pcmp_ge, pcmp_eqI, pcmp_neI, pcmp_eqS, pcmp_neS, pcmp_eqB, pcmp_isN, pcmp_isT, pcmp_isS, pcmp_isI, pcmp_isB, pcmp_isnotN, pcmp_isnotT, pcmp_isnotS, seq_tup, pidx_tup, atP_0, atP_1, atP_2, atP_3, SZ_le, SZ_lt, true_implies, false_implies, Bool.true_eq_false, Bool.false_eq_true, and_true, true_and, decide_eq_true_eq, decide_eq_false_iff_not, Bool.not_eq_true', Bool.not_eq_false', Nat.reduceLeDiff, Nat.reduceAdd, Nat.zero_le, Bool.not_true, Bool.not_false, pbi_len (seq_at hl5), List.length_map]
      refine ⟨fun c => ?_, fun c => ?_⟩
      · cases Em with
        | nil => simp at c
        | cons k0 Em =>
          refine wS_cons (wS_ret ?_)
          simp only [wE_var, wE_non, wE_bl, wE_int, wE_str, wE_tup, wE_lst, wE_bin, wE_cmp, wE_and, wE_or, wE_not, wE_ite, wE_idx, wE_call, wE_bi, wE_mt, wL_nil, wL_cons, wR_some, wV_some, wB_some, wG_some, wX_some, wT_bl, wT_int, wT_non, wT_tup, bindP, bindPs, wipeP, List.getElem?_cons_zero, List.getElem?_cons_succ, List.set_cons_zero, List.set_cons_succ, List.length_cons, List.length_nil, pbin_add, pbin_sub, pbi_int, pbi_lenT, pbi_tupT, isTup_tup, isTup_str, isTup_int, isTup_bl, isTup_non, isBl_bl, isBl_int, isBl_str, isInt_int, isInt_str, isStr_str, pcmp_lt, pcmp_le, pcmp_gt, pcmp_ge, pcmp_eqI, pcmp_neI, pcmp_eqS, pcmp_neS, pcmp_eqB, pcmp_isN, pcmp_isT, pcmp_isS, pcmp_isI, pcmp_isB, pcmp_isnotN, pcmp_isnotT, pcmp_isnotS, seq_tup, pidx_tup, atP_0, atP_1, atP_2, atP_3, SZ_le, SZ_lt, true_implies, false_implies, Bool.true_eq_false, Bool.false_eq_true, and_true, true_and, decide_eq_true_eq, decide_eq_false_iff_not, Bool.not_eq_true', Bool.not_eq_false', Nat.reduceLeDiff, Nat.reduceAdd, Nat.zero_le, Bool.not_true, Bool.not_false]
          refine wC_mono (scope_ok (n := 0) s) fun v h6 ⟨hv, k6⟩ => ?_
          have e0 : pidx (.ref l5) (.int 0) h6 = some (.str k0) := by rw [pidx_seq (k6.seq (seq_at hl5))]; exact atP_0
          subst hv
          simp only [wE_var, wE_non, wE_bl, wE_int, wE_str, wE_tup, wE_lst, wE_bin, wE_cmp, wE_and, wE_or, wE_not, wE_ite, wE_idx, wE_call, wE_bi, wE_mt, wL_nil, wL_cons, wR_some, wV_some, wB_some, wG_some, wX_some, wT_bl, wT_int, wT_non, wT_tup, bindP, bindPs, wipeP, List.getElem?_cons_zero, List.getElem?_cons_succ, List.set_cons_zero, List.set_cons_succ, List.length_cons, List.length_nil, pbin_add, pbin_sub, pbi_int, pbi_lenT, pbi_tupT, isTup_tup, isTup_str, isTup_int, isTup_bl, isTup_non, isBl_bl, isBl_int, isBl_str, isInt_int, isInt_str, isStr_str, pcmp_lt, pcmp_le, pcmp_gt, pcmp_ge, pcmp_eqI, pcmp_neI, pcmp_eqS, pcmp_neS, pcmp_eqB, pcmp_isN, pcmp_isT, pcmp_isS, pcmp_isI, pcmp_isB, pcmp_isnotN, pcmp_isnotT, pcmp_isnotS, seq_tup, pidx_tup, atP_0, atP_1, atP_2, atP_3, SZ_le, SZ_lt, true_implies, false_implies, Bool.true_eq_false, Bool.false_eq_true, and_true, true_and, decide_eq_true_eq, decide_eq_false_iff_not, Bool.not_eq_true', Bool.not_eq_false', Nat.reduceLeDiff, Nat.reduceAdd, Nat.zero_le, Bool.not_true, Bool.not_false, e0]
          rw [hfault]
          exact wC_mono (same_ok 1 9 (.tup [.str noval, .str k0]) h6 (good_strs (ks := [noval, k0]) (by simp)) (by omega)) fun r h7 ⟨hr, _⟩ => hr
      · have hEm : Em = [] := by
          cases Em with
          | nil => rfl
          | cons k0 Em => simp at c
        subst hEm
        have hf : fault D = .non := hfault
        have hv1 := hall rfl
        clear hfault hall c hl5
        refine wS_nil (wS_cons (wS_cond ?_))
        simp only [wE_var, wE_non, wE_bl, wE_int, wE_str, wE_tup, wE_lst, wE_bin, wE_cmp, wE_and, wE_or, wE_not, wE_ite, wE_idx, wE_call, wE_bi, wE_mt, wL_nil, wL_cons, wR_some, wV_some, wB_some, wG_some, wX_some, wT_bl, wT_int, wT_non, wT_tup, bindP, bindPs, wipeP, List.getElem?_cons_zero, List.getElem?_cons_succ, List.set_cons_zero, List.set_cons_succ, List.length_cons, List.length_nil, pbin_add, pbin_sub, pbi_int, pbi_lenT, pbi_tupT, isTup_tup, isTup_str, isTup_int, isTup_bl, isTup_non, isBl_bl, isBl_int, isBl_str, isInt_int, isInt_str, isStr_str, pcmp_lt, pcmp_le, pcmp_gt, pcmp_ge, pcmp_eqI, pcmp_neI, pcmp_eqS, pcmp_neS, pcmp_eqB, pcmp_isN, pcmp_isT, pcmp_isS, pcmp_isI, pcmp_isB, pcmp_isnotN, pcmp_isnotT, pcmp_isnotS, seq_tup, pidx_tup, atP_0, atP_1, atP_2, atP_3, SZ_le, SZ_lt, true_implies, false_implies, Bool.true_eq_false, Bool.false_eq_true, and_true, true_and, decide_eq_true_eq, decide_eq_false_iff_not, Bool.not_eq_true', Bool.not_eq_false', Nat.reduceLeDiff, Nat.reduceAdd, Nat.zero_le, Bool.not_true, Bool.not_false]
        refine wC_mono (scope_ok (n := 0) s) fun v h6 ⟨hv, k6⟩ => ?_
        rw [hf] at hv
        subst hv
        simp only [wE_var, wE_non, wE_bl, wE_int, wE_str, wE_tup, wE_lst, wE_bin, wE_cmp, wE_and, wE_or, wE_not, wE_ite, wE_idx, wE_call, wE_bi, wE_mt, wL_nil, wL_cons, wR_some, wV_some, wB_some, wG_some, wX_some, wT_bl, wT_int, wT_non, wT_tup, bindP, bindPs, wipeP, List.getElem?_cons_zero, List.getElem?_cons_succ, List.set_cons_zero, List.set_cons_succ, List.length_cons, List.length_nil, pbin_add, pbin_sub, pbi_int, pbi_lenT, pbi_tupT, isTup_tup, isTup_str, isTup_int, isTup_bl, isTup_non, isBl_bl, isBl_int, isBl_str, isInt_int, isInt_str, isStr_str, pcmp_lt, pcmp_le, pcmp_gt, pcmp_ge, pcmp_eqI, pcmp_neI, pcmp_eqS, pcmp_neS, pcmp_eqB, pcmp_isN, pcmp_isT, pcmp_isS, pcmp_isI, pcmp_isB, pcmp_isnotN, pcmp_isnotT, pcmp_isnotS, seq_tup, pidx_tup, atP_0, atP_1, atP_2, atP_3, SZ_le, SZ_lt, true_implies, false_implies, Bool.true_eq_false, Bool.false_eq_true, and_true, true_and, decide_eq_true_eq, decide_eq_false_iff_not, Bool.not_eq_true', Bool.not_eq_false', Nat.reduceLeDiff, Nat.reduceAdd, Nat.zero_le, Bool.not_true, Bool.not_false]
        clear k6
        refine wS_nil (wS_cons (wS_for D encD (fun _ => True) (fun pre σ h' => ∃ (a5 a6 a7 a8 a9 a10 a11 a12 : Option PV), σ = [some x, some (.ref b), some (.tup (D.map encD)), some (prog D), some (.ref l4), a5, a6, a7, a8, a9, a10, a11, a12]) ?_ (fun _ _ _ _ => trivial) ?_ ?_))
        · refine wI_itrT ?_
          simp only [wE_var, wE_non, wE_bl, wE_int, wE_str, wE_tup, wE_lst, wE_bin, wE_cmp, wE_and, wE_or, wE_not, wE_ite, wE_idx, wE_call, wE_bi, wE_mt, wL_nil, wL_cons, wR_some, wV_some, wB_some, wG_some, wX_some, wT_bl, wT_int, wT_non, wT_tup, bindP, bindPs, wipeP, List.getElem?_cons_zero, List.getElem?_cons_succ, List.set_cons_zero, List.set_cons_succ, List.length_cons, List.length_nil, pbin_add, pbin_sub, pbi_int, pbi_lenT, pbi_tupT, isTup_tup, isTup_str, isTup_int, isTup_bl, isTup_non, isBl_bl, isBl_int, isBl_str, isInt_int, isInt_str, isStr_str, pcmp_lt, pcmp_le, pcmp_gt, pcmp_ge, pcmp_eqI, pcmp_neI, pcmp_eqS, pcmp_neS, pcmp_eqB, pcmp_isN, pcmp_isT, pcmp_isS, pcmp_isI, pcmp_isB, pcmp_isnotN, pcmp_isnotT, pcmp_isnotS, seq_tup, pidx_tup, atP_0, atP_1, atP_2, atP_3, SZ_le, SZ_lt, true_implies, false_implies, Bool.true_eq_false, Bool.false_eq_true, and_true, true_and, decide_eq_true_eq, decide_eq_false_iff_not, Bool.not_eq_true', Bool.not_eq_false', Nat.reduceLeDiff, Nat.reduceAdd, Nat.zero_le, Bool.not_true, Bool.not_false]
          exact ⟨_, rfl, .inl rfl, _, _, _, _, _, _, _, _, rfl⟩
        · rintro pre d post e σ h7 ⟨a5, a6, a7, a8, a9, a10, a11, a12, rfl⟩
          have hd : d ∈ D := by rw [e]; simp
          have hdk : D[pre.length]? = some d := by rw [e]; simp
          have hdu : d.1 ∈ uni D := List.mem_cons_of_mem _ (List.mem_cons_of_mem _ (List.mem_map_of_mem hd))
          have hdl := s.len d hd
          refine ⟨_, rfl, ?_⟩
          show wS P _ _ [some x, some (.ref b), some (.tup (D.map encD)), some (prog D), some (.ref l4), some (.str d.1), some (.tup (d.2.map encM)), a7, a8, a9, a10, a11, a12] h7 _ _
          -- reached
          refine wS_cons (wS_cond ?_)
          simp only [wE_var, wE_non, wE_bl, wE_int, wE_str, wE_tup, wE_lst, wE_bin, wE_cmp, wE_and, wE_or, wE_not, wE_ite, wE_idx, wE_call, wE_bi, wE_mt, wL_nil, wL_cons, wR_some, wV_some, wB_some, wG_some, wX_some, wT_bl, wT_int, wT_non, wT_tup, bindP, bindPs, wipeP, List.getElem?_cons_zero, List.getElem?_cons_succ, List.set_cons_zero, List.set_cons_succ, List.length_cons, List.length_nil, pbin_add, pbin_sub, pbi_int, pbi_lenT, pbi_tupT, isTup_tup, isTup_str, isTup_int, isTup_bl, isTup_non, isBl_bl, isBl_int, isBl_str, isInt_int, isInt_str, isStr_str, pcmp_lt, pcmp_le, pcmp_gt, pcmp_ge, pcmp_eqI, pcmp_neI, pcmp_eqS, pcmp_neS, pcmp_eqB, pcmp_isN, pcmp_isT, pcmp_isS, pcmp_isI, pcmp_isB, pcmp_isnotN, pcmp_isnotT, pcmp_isnotS, seq_tup, pidx_tup, atP_0, atP_1, atP_2, atP_3, SZ_le, SZ_lt, true_implies, false_implies, Bool.true_eq_false, Bool.false_eq_true, and_true, true_and, decide_eq_true_eq, decide_eq_false_iff_not, Bool.not_eq_true', Bool.not_eq_false', Nat.reduceLeDiff, Nat.reduceAdd, Nat.zero_le, Bool.not_true, Bool.not_false]
          refine wC_mono (reached_ok (n := 7) s hdu) fun v h8 ⟨Bf, nB, mB, lB, hv, k8⟩ => ?_
          subst hv
          refine wC_mono (makersin_ok (n := 8) s hdu) fun v h9 ⟨l9, hv, hl9, k9⟩ => ?_
          subst hv
          simp only [wE_var, wE_non, wE_bl, wE_int, wE_str, wE_tup, wE_lst, wE_bin, wE_cmp, wE_and, wE_or, wE_not, wE_ite, wE_idx, wE_call, wE_bi, wE_mt, wL_nil, wL_cons, wR_some, wV_some, wB_some, wG_some, wX_some, wT_bl, wT_int, wT_non, wT_tup, bindP, bindPs, wipeP, List.getElem?_cons_zero, List.getElem?_cons_succ, List.set_cons_zero, List.set_cons_succ, List.length_cons, List.length_nil, pbin_add, pbin_sub, pbi_int, pbi_lenT, pbi_tupT, isTup_tup, isTup_str, isTup_int, isTup_bl, isTup_non, isBl_bl, isBl_int, isBl_str, isInt_int, isInt_str, isStr_str, pcmp_lt, pcmp_le, pcmp_gt, pcmp_ge, pcmp_eqI, pcmp_neI, pcmp_eqS, pcmp_neS, pcmp_eqB, pcmp_isN, pcmp_isT, pcmp_isS, pcmp_isI, pcmp_isB, pcmp_isnotN, pcmp_isnotT, pcmp_isnotS, seq_tup, pidx_tup, atP_0, atP_1, atP_2, atP_3, SZ_le, SZ_lt, true_implies, false_implies, Bool.true_eq_false, Bool.false_eq_true, and_true, true_and, decide_eq_true_eq, decide_eq_false_iff_not, Bool.not_eq_true', Bool.not_eq_false', Nat.reduceLeDiff, Nat.reduceAdd, Nat.zero_le, Bool.not_true, Bool.not_false, pbi_tup (seq_at hl9)]
          have hS : (sortSg (onceG [] (liter D d.1 6))).Perm Bf := by
            have n1 : (sortSg (onceG [] (liter D d.1 6))).Nodup := (sortSg_perm _).nodup_iff.mpr (onceG_nodup _ [] List.nodup_nil)
            refine perm_of_nodup _ _ n1 nB fun y => ?_
            rw [(sortSg_perm _).mem_iff, onceG_mem, mB, ← liter_mem s hdu]
            simp
          have hE : sortSg ((sortSg (onceG [] (liter D d.1 6))).flatMap (mkrs D)) = sortSg (Bf.flatMap (mkrs D)) := sort_eq (hS.flatMap_right _)
          rw [hE]
          have hfl := flat_len s Bf
          refine wC_mono (same_ok 1 9 (.tup ((sortSg (Bf.flatMap (mkrs D))).map .str)) h9 (good_strs (by rw [(sortSg_perm _).length_eq]; omega)) (by omega)) fun r h10 ⟨hr, hh⟩ => ?_
          subst hr
          simp only [wE_var, wE_non, wE_bl, wE_int, wE_str, wE_tup, wE_lst, wE_bin, wE_cmp, wE_and, wE_or, wE_not, wE_ite, wE_idx, wE_call, wE_bi, wE_mt, wL_nil, wL_cons, wR_some, wV_some, wB_some, wG_some, wX_some, wT_bl, wT_int, wT_non, wT_tup, bindP, bindPs, wipeP, List.getElem?_cons_zero, List.getElem?_cons_succ, List.set_cons_zero, List.set_cons_succ, List.length_cons, List.length_nil, pbin_add, pbin_sub, pbi_int, pbi_lenT, pbi_tupT, isTup_tup, isTup_str, isTup_int, isTup_bl, isTup_non, isBl_bl, isBl_int, isBl_str, isInt_int, isInt_str, isStr_str, pcmp_lt, pcmp_le, pcmp_gt, pcmp_ge, pcmp_eqI, pcmp_neI, pcmp_eqS, pcmp_neS, pcmp_eqB, pcmp_isN, pcmp_isT, pcmp_isS, pcmp_isI, pcmp_isB, pcmp_isnotN, pcmp_isnotT, pcmp_isnotS, seq_tup, pidx_tup, atP_0, atP_1, atP_2, atP_3, SZ_le, SZ_lt, true_implies, false_implies, Bool.true_eq_false, Bool.false_eq_true, and_true, true_and, decide_eq_true_eq, decide_eq_false_iff_not, Bool.not_eq_true', Bool.not_eq_false', Nat.reduceLeDiff, Nat.reduceAdd, Nat.zero_le, Bool.not_true, Bool.not_false]
          clear hh hE hS hl9 k9 k8 mB nB lB hfl
          -- makers_of
          refine wS_nil (wS_cons (wS_cond ?_))
          simp only [wE_var, wE_non, wE_bl, wE_int, wE_str, wE_tup, wE_lst, wE_bin, wE_cmp, wE_and, wE_or, wE_not, wE_ite, wE_idx, wE_call, wE_bi, wE_mt, wL_nil, wL_cons, wR_some, wV_some, wB_some, wG_some, wX_some, wT_bl, wT_int, wT_non, wT_tup, bindP, bindPs, wipeP, List.getElem?_cons_zero, List.getElem?_cons_succ, List.set_cons_zero, List.set_cons_succ, List.length_cons, List.length_nil, pbin_add, pbin_sub, pbi_int, pbi_lenT, pbi_tupT, isTup_tup, isTup_str, isTup_int, isTup_bl, isTup_non, isBl_bl, isBl_int, isBl_str, isInt_int, isInt_str, isStr_str, pcmp_lt, pcmp_le, pcmp_gt, pcmp_ge, pcmp_eqI, pcmp_neI, pcmp_eqS, pcmp_neS, pcmp_eqB, pcmp_isN, pcmp_isT, pcmp_isS, pcmp_isI, pcmp_isB, pcmp_isnotN, pcmp_isnotT, pcmp_isnotS, seq_tup, pidx_tup, atP_0, atP_1, atP_2, atP_3, SZ_le, SZ_lt, true_implies, false_implies, Bool.true_eq_false, Bool.false_eq_true, and_true, true_and, decide_eq_true_eq, decide_eq_false_iff_not, Bool.not_eq_true', Bool.not_eq_false', Nat.reduceLeDiff, Nat.reduceAdd, Nat.zero_le, Bool.not_true, Bool.not_false]
          refine wC_mono (makers_ok (n := 8) s) fun v h11 ⟨hv, k11⟩ => ?_
          subst hv
          rw [look_of s.nodup hd]
          refine wC_mono (same_ok 3 9 (.tup (d.2.map encM)) h11 (good_mks ⟨by omega, fun m hm => by have := (s.prt d hd m hm).1; omega⟩) (by omega)) fun r h12 ⟨hr, hh⟩ => ?_
          subst hr
          simp only [wE_var, wE_non, wE_bl, wE_int, wE_str, wE_tup, wE_lst, wE_bin, wE_cmp, wE_and, wE_or, wE_not, wE_ite, wE_idx, wE_call, wE_bi, wE_mt, wL_nil, wL_cons, wR_some, wV_some, wB_some, wG_some, wX_some, wT_bl, wT_int, wT_non, wT_tup, bindP, bindPs, wipeP, List.getElem?_cons_zero, List.getElem?_cons_succ, List.set_cons_zero, List.set_cons_succ, List.length_cons, List.length_nil, pbin_add, pbin_sub, pbi_int, pbi_lenT, pbi_tupT, isTup_tup, isTup_str, isTup_int, isTup_bl, isTup_non, isBl_bl, isBl_int, isBl_str, isInt_int, isInt_str, isStr_str, pcmp_lt, pcmp_le, pcmp_gt, pcmp_ge, pcmp_eqI, pcmp_neI, pcmp_eqS, pcmp_neS, pcmp_eqB, pcmp_isN, pcmp_isT, pcmp_isS, pcmp_isI, pcmp_isB, pcmp_isnotN, pcmp_isnotT, pcmp_isnotS, seq_tup, pidx_tup, atP_0, atP_1, atP_2, atP_3, SZ_le, SZ_lt, true_implies, false_implies, Bool.true_eq_false, Bool.false_eq_true, and_true, true_and, decide_eq_true_eq, decide_eq_false_iff_not, Bool.not_eq_true', Bool.not_eq_false', Nat.reduceLeDiff, Nat.reduceAdd, Nat.zero_le, Bool.not_true, Bool.not_false]
          clear hh k11
          -- maker_of
          refine wS_nil (wS_cons (wS_for (List.range d.2.length) (fun k : Nat => PV.int k) (fun _ => True) (fun pre σ h' => ∃ (a8 : Option PV), σ = [some x, some (.ref b), some (.tup (D.map encD)), some (prog D), some (.ref l4), some (.str d.1), some (.tup (d.2.map encM)), a7, a8, a9, a10, a11, a12]) ?_ (fun _ _ _ _ => trivial) ?_ ?_))
          · refine wI_range1 ?_
            simp only [wE_var, wE_non, wE_bl, wE_int, wE_str, wE_tup, wE_lst, wE_bin, wE_cmp, wE_and, wE_or, wE_not, wE_ite, wE_idx, wE_call, wE_bi, wE_mt, wL_nil, wL_cons, wR_some, wV_some, wB_some, wG_some, wX_some, wT_bl, wT_int, wT_non, wT_tup, bindP, bindPs, wipeP, List.getElem?_cons_zero, List.getElem?_cons_succ, List.set_cons_zero, List.set_cons_succ, List.length_cons, List.length_nil, pbin_add, pbin_sub, pbi_int, pbi_lenT, pbi_tupT, isTup_tup, isTup_str, isTup_int, isTup_bl, isTup_non, isBl_bl, isBl_int, isBl_str, isInt_int, isInt_str, isStr_str, pcmp_lt, pcmp_le, pcmp_gt, pcmp_ge, pcmp_eqI, pcmp_neI, pcmp_eqS, pcmp_neS, pcmp_eqB, pcmp_isN, pcmp_isT, pcmp_isS, pcmp_isI, pcmp_isB, pcmp_isnotN, pcmp_isnotT, pcmp_isnotS, seq_tup, pidx_tup, atP_0, atP_1, atP_2, atP_3, SZ_le, SZ_lt, true_implies, false_implies, Bool.true_eq_false, Bool.false_eq_true, and_true, true_and, decide_eq_true_eq, decide_eq_false_iff_not, Bool.not_eq_true', Bool.not_eq_false', Nat.reduceLeDiff, Nat.reduceAdd, Nat.zero_le, Bool.not_true, Bool.not_false, List.length_map]
            exact ⟨_, rfl, by omega, .inl (by rw [Int.toNat_natCast]), _, rfl⟩
          · rintro pre2 k post2 e2 σ h13 ⟨a8, rfl⟩
            obtain ⟨rfl, hk⟩ := range_split e2
            have hm : d.2[pre2.length]? = some d.2[pre2.length] := List.getElem?_eq_getElem hk
            generalize d.2[pre2.length] = m at hm
            have hmm := List.mem_of_getElem? hm
            refine ⟨_, rfl, ?_⟩
            show wS P _ _ [some x, some (.ref b), some (.tup (D.map encD)), some (prog D), some (.ref l4), some (.str d.1), some (.tup (d.2.map encM)), a7, some (.int (pre2.length : Int)), a9, a10, a11, a12] h13 _ _
            refine wS_cons (wS_cond ?_)
            have e1 : atP (d.2.map encM) (pre2.length : Int) = some (encM m) := atP_nat (by rw [List.getElem?_map, hm]; rfl)
            have e2 : ∀ h, pidx (encM m) (.int 0) h = some (.str m.1) := fun _ => atP_0
            have e3 : ∀ h, pidx (encM m) (.int 1) h = some (.tup (m.2.map .str)) := fun _ => atP_1
            simp only [wE_var, wE_non, wE_bl, wE_int, wE_str, wE_tup, wE_lst, wE_bin, wE_cmp, wE_and, wE_or, wE_not, wE_ite, wE_idx, wE_call, wE_bi, wE_mt, wL_nil, wL_cons, wR_some, wV_some, wB_some, wG_some, wX_some, wT_bl, wT_int, wT_non, wT_tup, bindP, bindPs, wipeP, List.getElem?_cons_zero, List.getElem?_cons_succ, List.set_cons_zero, List.set_cons_succ, List.length_cons, List.length_nil, pbin_add, pbin_sub, pbi_int, pbi_lenT, pbi_tupT, isTup_tup, isTup_str, isTup_int, isTup_bl, isTup_non, isBl_bl, isBl_int, isBl_str, isInt_int, isInt_str, isStr_str, pcmp_lt, pcmp_le, pcmp_gt, pcmp_ge, pcmp_eqI, pcmp_neI, pcmp_eqS, pcmp_neS, pcmp_eqB, pcmp_isN, pcmp_isT, pcmp_isS, pcmp_isI, pcmp_isB, pcmp_isnotN, pcmp_isnotT, pcmp_isnotS, seq_tup, pidx_tup, atP_0, atP_1, atP_2, atP_3, SZ_le, SZ_lt, true_implies, false_implies, Bool.true_eq_false, Bool.false_eq_true, and_true, true_and, decide_eq_true_eq, decide_eq_false_iff_not, Bool.not_eq_true', Bool.not_eq_false', Nat.reduceLeDiff, Nat.reduceAdd, Nat.zero_le, Bool.not_true, Bool.not_false, e1, e2]
            refine wC_mono (maker_ok (n := 8) s hdk hm) fun v h14 ⟨hv, hh⟩ => ?_
            subst hv hh
            simp only [wE_var, wE_non, wE_bl, wE_int, wE_str, wE_tup, wE_lst, wE_bin, wE_cmp, wE_and, wE_or, wE_not, wE_ite, wE_idx, wE_call, wE_bi, wE_mt, wL_nil, wL_cons, wR_some, wV_some, wB_some, wG_some, wX_some, wT_bl, wT_int, wT_non, wT_tup, bindP, bindPs, wipeP, List.getElem?_cons_zero, List.getElem?_cons_succ, List.set_cons_zero, List.set_cons_succ, List.length_cons, List.length_nil, pbin_add, pbin_sub, pbi_int, pbi_lenT, pbi_tupT, isTup_tup, isTup_str, isTup_int, isTup_bl, isTup_non, isBl_bl, isBl_int, isBl_str, isInt_int, isInt_str, isStr_str, pcmp_lt, pcmp_le, pcmp_gt, pcmp_ge, pcmp_eqI, pcmp_neI, pcmp_eqS, pcmp_neS, pcmp_eqB, pcmp_isN, pcmp_isT, pcmp_isS, pcmp_isI, pcmp_isB, pcmp_isnotN, pcmp_isnotT, pcmp_isnotS, seq_tup, pidx_tup, atP_0, atP_1, atP_2, atP_3, SZ_le, SZ_lt, true_implies, false_implies, Bool.true_eq_false, Bool.false_eq_true, and_true, true_and, decide_eq_true_eq, decide_eq_false_iff_not, Bool.not_eq_true', Bool.not_eq_false', Nat.reduceLeDiff, Nat.reduceAdd, Nat.zero_le, Bool.not_true, Bool.not_false, e1, e3]
            refine wC_mono (same_ok 2 9 (.tup [.str d.1, .int (pre2.length : Int), .tup (m.2.map .str)]) h14 ⟨by simp, fun y hy => ?_⟩ (by omega)) fun r h15 ⟨hr, hh⟩ => ?_
            · rcases List.mem_cons.mp hy with z | z
              · subst z; exact trivial
              · rcases List.mem_cons.mp z with z | z
                · subst z; exact trivial
                · rw [List.mem_singleton.mp z]; exact good_strs (by have := (s.prt d hd m hmm).1; omega)
            · subst hr
              simp only [wE_var, wE_non, wE_bl, wE_int, wE_str, wE_tup, wE_lst, wE_bin, wE_cmp, wE_and, wE_or, wE_not, wE_ite, wE_idx, wE_call, wE_bi, wE_mt, wL_nil, wL_cons, wR_some, wV_some, wB_some, wG_some, wX_some, wT_bl, wT_int, wT_non, wT_tup, bindP, bindPs, wipeP, List.getElem?_cons_zero, List.getElem?_cons_succ, List.set_cons_zero, List.set_cons_succ, List.length_cons, List.length_nil, pbin_add, pbin_sub, pbi_int, pbi_lenT, pbi_tupT, isTup_tup, isTup_str, isTup_int, isTup_bl, isTup_non, isBl_bl, isBl_int, isBl_str, isInt_int, isInt_str, isStr_str, pcmp_lt, pcmp_le, pcmp_gt, pcmp_ge, pcmp_eqI, pcmp_neI, pcmp_eqS, pcmp_neS, pcmp_eqB, pcmp_isN, pcmp_isT, pcmp_isS, pcmp_isI, pcmp_isB, pcmp_isnotN, pcmp_isnotT, pcmp_isnotS, seq_tup, pidx_tup, atP_0, atP_1, atP_2, atP_3, SZ_le, SZ_lt, true_implies, false_implies, Bool.true_eq_false, Bool.false_eq_true, and_true, true_and, decide_eq_true_eq, decide_eq_false_iff_not, Bool.not_eq_true', Bool.not_eq_false', Nat.reduceLeDiff, Nat.reduceAdd, Nat.zero_le, Bool.not_true, Bool.not_false]
              exact wS_nil (wS_nil ⟨_, rfl⟩)
          · rintro σ h13 ⟨a8, rfl⟩
            -- without one
            refine wS_cons (wS_for D encD (fun _ => True) (fun pre σ h' => ∃ (a9 a10 a11 a12 : Option PV), σ = [some x, some (.ref b), some (.tup (D.map encD)), some (prog D), some (.ref l4), some (.str d.1), some (.tup (d.2.map encM)), a7, a8, a9, a10, a11, a12]) ?_ (fun _ _ _ _ => trivial) ?_ ?_)
            · refine wI_itrT ?_
              simp only [wE_var, wE_non, wE_bl, wE_int, wE_str, wE_tup, wE_lst, wE_bin, wE_cmp, wE_and, wE_or, wE_not, wE_ite, wE_idx, wE_call, wE_bi, wE_mt, wL_nil, wL_cons, wR_some, wV_some, wB_some, wG_some, wX_some, wT_bl, wT_int, wT_non, wT_tup, bindP, bindPs, wipeP, List.getElem?_cons_zero, List.getElem?_cons_succ, List.set_cons_zero, List.set_cons_succ, List.length_cons, List.length_nil, pbin_add, pbin_sub, pbi_int, pbi_lenT, pbi_tupT, isTup_tup, isTup_str, isTup_int, isTup_bl, isTup_non, isBl_bl, isBl_int, isBl_str, isInt_int, isInt_str, isStr_str, pcmp_lt, pcmp_le, pcmp_gt, pcmp_ge, pcmp_eqI, pcmp_neI, pcmp_eqS, pcmp_neS, pcmp_eqB, pcmp_isN, pcmp_isT, pcmp_isS, pcmp_isI, pcmp_isB, pcmp_isnotN, pcmp_isnotT, pcmp_isnotS, seq_tup, pidx_tup, atP_0, atP_1, atP_2, atP_3, SZ_le, SZ_lt, true_implies, false_implies, Bool.true_eq_false, Bool.false_eq_true, and_true, true_and, decide_eq_true_eq, decide_eq_false_iff_not, Bool.not_eq_true', Bool.not_eq_false', Nat.reduceLeDiff, Nat.reduceAdd, Nat.zero_le, Bool.not_true, Bool.not_false]
              exact ⟨_, rfl, .inl rfl, _, _, _, _, rfl⟩
            · rintro pre2 o post2 e2 σ h14 ⟨a9, a10, a11, a12, rfl⟩
              have ho : o ∈ D := by rw [e2]; simp
              have hoN : o.1 ∈ D.map (·.1) := List.mem_map_of_mem ho
              refine ⟨_, rfl, ?_⟩
              show wS P _ _ [some x, some (.ref b), some (.tup (D.map encD)), some (prog D), some (.ref l4), some (.str d.1), some (.tup (d.2.map encM)), a7, a8, some (.str o.1), some (.tup (o.2.map encM)), a11, a12] h14 _ _
              refine wS_cons (wS_asg rfl ?_)
              simp only [wE_var, wE_non, wE_bl, wE_int, wE_str, wE_tup, wE_lst, wE_bin, wE_cmp, wE_and, wE_or, wE_not, wE_ite, wE_idx, wE_call, wE_bi, wE_mt, wL_nil, wL_cons, wR_some, wV_some, wB_some, wG_some, wX_some, wT_bl, wT_int, wT_non, wT_tup, bindP, bindPs, wipeP, List.getElem?_cons_zero, List.getElem?_cons_succ, List.set_cons_zero, List.set_cons_succ, List.length_cons, List.length_nil, pbin_add, pbin_sub, pbi_int, pbi_lenT, pbi_tupT, isTup_tup, isTup_str, isTup_int, isTup_bl, isTup_non, isBl_bl, isBl_int, isBl_str, isInt_int, isInt_str, isStr_str, pcmp_lt, pcmp_le, pcmp_gt, pcmp_ge, pcmp_eqI, pcmp_neI, pcmp_eqS, pcmp_neS, pcmp_eqB, pcmp_isN, pcmp_isT, pcmp_isS, pcmp_isI, pcmp_isB, pcmp_isnotN, pcmp_isnotT, pcmp_isnotS, seq_tup, pidx_tup, atP_0, atP_1, atP_2, atP_3, SZ_le, SZ_lt, true_implies, false_implies, Bool.true_eq_false, Bool.false_eq_true, and_true, true_and, decide_eq_true_eq, decide_eq_false_iff_not, Bool.not_eq_true', Bool.not_eq_false', Nat.reduceLeDiff, Nat.reduceAdd, Nat.zero_le, Bool.not_true, Bool.not_false]
              refine wC_mono (filled_ok (n := 8) (wo := [o.1]) (w := h14.length) s (by simp)) fun v h15 ⟨l11, hv, hF, k15⟩ => ?_
              subst hv
              clear k15
              have hiff : ∀ k, hv D 5 k [o.1] = true ↔ k ∈ filled D [o.1] := hv_iff s (fun z => s.num.1 (by rw [List.mem_singleton.mp z]; exact hoN)) (fun z => s.num.2 (by rw [List.mem_singleton.mp z]; exact hoN))
              have hl16 : (h15 ++ [AO.lst [PV.str num, .str tru, .str d.1]])[h15.length]? = some (.lst [PV.str num, .str tru, .str d.1]) := by simp
              refine wS_cons (wS_for [num, tru, d.1] PV.str (fun h' => Hx (h15 ++ [AO.lst [PV.str num, .str tru, .str d.1]]) h') (fun pre σ h' => ∃ (a12 : Option PV), σ = [some x, some (.ref b), some (.tup (D.map encD)), some (prog D), some (.ref l4), some (.str d.1), some (.tup (d.2.map encM)), a7, a8, some (.str o.1), some (.tup (o.2.map encM)), some (.ref l11), a12] ∧ Hx (h15 ++ [AO.lst [PV.str num, .str tru, .str d.1]]) h') ?_ (fun _ _ _ ⟨_, _, k⟩ => k) ?_ ?_)
              · refine wI_itrL ?_
                simp only [wE_var, wE_non, wE_bl, wE_int, wE_str, wE_tup, wE_lst, wE_bin, wE_cmp, wE_and, wE_or, wE_not, wE_ite, wE_idx, wE_call, wE_bi, wE_mt, wL_nil, wL_cons, wR_some, wV_some, wB_some, wG_some, wX_some, wT_bl, wT_int, wT_non, wT_tup, bindP, bindPs, wipeP, List.getElem?_cons_zero, List.getElem?_cons_succ, List.set_cons_zero, List.set_cons_succ, List.length_cons, List.length_nil, pbin_add, pbin_sub, pbi_int, pbi_lenT, pbi_tupT, isTup_tup, isTup_str, isTup_int, isTup_bl, isTup_non, isBl_bl, isBl_int, isBl_str, isInt_int, isInt_str, isStr_str, pcmp_lt, pcmp_le, pcmp_gt, pcmp_ge, pcmp_eqI, pcmp_neI, pcmp_eqS, pcmp_neS, pcmp_eqB, pcmp_isN, pcmp_isT, pcmp_isS, pcmp_isI, pcmp_isB, pcmp_isnotN, pcmp_isnotT, pcmp_isnotS, seq_tup, pidx_tup, atP_0, atP_1, atP_2, atP_3, SZ_le, SZ_lt, true_implies, false_implies, Bool.true_eq_false, Bool.false_eq_true, and_true, true_and, decide_eq_true_eq, decide_eq_false_iff_not, Bool.not_eq_true', Bool.not_eq_false', Nat.reduceLeDiff, Nat.reduceAdd, Nat.zero_le, Bool.not_true, Bool.not_false]
                exact ⟨_, _, rfl, seq_new, .inr (.inl ⟨_, rfl, fun h' k' => k'.seq (seq_at hl16)⟩), _, rfl, Hx.refl⟩
              · rintro pre3 kd post3 e3 σ h16 ⟨a12, rfl, k16⟩
                have hkd : kd ∈ uni D := by
                  have : kd ∈ [num, tru, d.1] := by rw [e3]; simp
                  rcases List.mem_cons.mp this with z | z
                  · subst z; unfold uni; simp
                  · rcases List.mem_cons.mp z with z | z
                    · subst z; unfold uni; simp
                    · rw [List.mem_singleton.mp z]; exact hdu
                refine ⟨_, rfl, ?_⟩
                show wS P _ _ [some x, some (.ref b), some (.tup (D.map encD)), some (prog D), some (.ref l4), some (.str d.1), some (.tup (d.2.map encM)), a7, a8, some (.str o.1), some (.tup (o.2.map encM)), some (.ref l11), some (.str kd)] h16 _ _
                refine wS_cons (wS_cond ?_)
                have c1 := hv_ok s 5 9 kd [o.1] h16 (by omega) hkd (by
                  have := List.length_filter_le (fun x => decide (x ∉ ([o.1] : List Sg))) (D.map (·.1))
                  rw [List.length_map] at this; omega) (by simp)
                simp only [wE_var, wE_non, wE_bl, wE_int, wE_str, wE_tup, wE_lst, wE_bin, wE_cmp, wE_and, wE_or, wE_not, wE_ite, wE_idx, wE_call, wE_bi, wE_mt, wL_nil, wL_cons, wR_some, wV_some, wB_some, wG_some, wX_some, wT_bl, wT_int, wT_non, wT_tup, bindP, bindPs, wipeP, List.getElem?_cons_zero, List.getElem?_cons_succ, List.set_cons_zero, List.set_cons_succ, List.length_cons, List.length_nil, pbin_add, pbin_sub, pbi_int, pbi_lenT, pbi_tupT, isTup_tup, isTup_str, isTup_int, isTup_bl, isTup_non, isBl_bl, isBl_int, isBl_str, isInt_int, isInt_str, isStr_str, pcmp_lt, pcmp_le, pcmp_gt, pcmp_ge, pcmp_eqI, pcmp_neI, pcmp_eqS, pcmp_neS, pcmp_eqB, pcmp_isN, pcmp_isT, pcmp_isS, pcmp_isI, pcmp_isB, pcmp_isnotN, pcmp_isnotT, pcmp_isnotS, seq_tup, pidx_tup, atP_0, atP_1, atP_2, atP_3, SZ_le, SZ_lt, true_implies, false_implies, Bool.true_eq_false, Bool.false_eq_true, and_true, true_and, decide_eq_true_eq, decide_eq_false_iff_not, Bool.not_eq_true', Bool.not_eq_false', Nat.reduceLeDiff, Nat.reduceAdd, Nat.zero_le, Bool.not_true, Bool.not_false]
                refine wC_mono c1 fun v h17 ⟨hv', k17⟩ => ?_
                subst hv'
                have e4 := pin_strs (s := kd) (k17.seq (k16.seq (Hx.refl.app.seq (seq_at hF))))
                have e5 : decide (kd ∈ filled D [o.1]) = hv D 5 kd [o.1] := by
                  rw [Bool.eq_iff_iff, decide_eq_true_iff, hiff]
                simp only [wE_var, wE_non, wE_bl, wE_int, wE_str, wE_tup, wE_lst, wE_bin, wE_cmp, wE_and, wE_or, wE_not, wE_ite, wE_idx, wE_call, wE_bi, wE_mt, wL_nil, wL_cons, wR_some, wV_some, wB_some, wG_some, wX_some, wT_bl, wT_int, wT_non, wT_tup, bindP, bindPs, wipeP, List.getElem?_cons_zero, List.getElem?_cons_succ, List.set_cons_zero, List.set_cons_succ, List.length_cons, List.length_nil, pbin_add, pbin_sub, pbi_int, pbi_lenT, pbi_tupT, isTup_tup, isTup_str, isTup_int, isTup_bl, isTup_non, isBl_bl, isBl_int, isBl_str, isInt_int, isInt_str, isStr_str, pcmp_lt, pcmp_le, pcmp_gt, pcmp_ge, pcmp_eqI, pcmp_neI, pcmp_eqS, pcmp_neS, pcmp_eqB, pcmp_isN, pcmp_isT, pcmp_isS, pcmp_isI, pcmp_isB, pcmp_isnotN, pcmp_isnotT, pcmp_isnotS, seq_tup, pidx_tup, atP_0, atP_1, atP_2, atP_3, SZ_le, SZ_lt, true_implies, false_implies, Bool.true_eq_false, Bool.false_eq_true, and_true, true_and, decide_eq_true_eq, decide_eq_false_iff_not, Bool.not_eq_true', Bool.not_eq_false', Nat.reduceLeDiff, Nat.reduceAdd, Nat.zero_le, Bool.not_true, Bool.not_false, e4, e5]
                refine wC_mono (same_ok 0 9 (.bl (hv D 5 kd [o.1])) h17 trivial (by omega)) fun r h18 ⟨hr, hh⟩ => ?_
                subst hr hh
                simp only [wE_var, wE_non, wE_bl, wE_int, wE_str, wE_tup, wE_lst, wE_bin, wE_cmp, wE_and, wE_or, wE_not, wE_ite, wE_idx, wE_call, wE_bi, wE_mt, wL_nil, wL_cons, wR_some, wV_some, wB_some, wG_some, wX_some, wT_bl, wT_int, wT_non, wT_tup, bindP, bindPs, wipeP, List.getElem?_cons_zero, List.getElem?_cons_succ, List.set_cons_zero, List.set_cons_succ, List.length_cons, List.length_nil, pbin_add, pbin_sub, pbi_int, pbi_lenT, pbi_tupT, isTup_tup, isTup_str, isTup_int, isTup_bl, isTup_non, isBl_bl, isBl_int, isBl_str, isInt_int, isInt_str, isStr_str, pcmp_lt, pcmp_le, pcmp_gt, pcmp_ge, pcmp_eqI, pcmp_neI, pcmp_eqS, pcmp_neS, pcmp_eqB, pcmp_isN, pcmp_isT, pcmp_isS, pcmp_isI, pcmp_isB, pcmp_isnotN, pcmp_isnotT, pcmp_isnotS, seq_tup, pidx_tup, atP_0, atP_1, atP_2, atP_3, SZ_le, SZ_lt, true_implies, false_implies, Bool.true_eq_false, Bool.false_eq_true, and_true, true_and, decide_eq_true_eq, decide_eq_false_iff_not, Bool.not_eq_true', Bool.not_eq_false', Nat.reduceLeDiff, Nat.reduceAdd, Nat.zero_le, Bool.not_true, Bool.not_false]
                exact wS_nil (wS_nil ⟨_, rfl, k16.trans k17⟩)
              · rintro σ h16 ⟨a12, rfl, k16⟩
                exact wS_nil ⟨_, _, _, _, rfl⟩
            · rintro σ h14 ⟨a9, a10, a11, a12, rfl⟩
              exact wS_nil ⟨_, _, _, _, _, _, _, _, rfl⟩
        · rintro σ h7 ⟨a5, a6, a7, a8, a9, a10, a11, a12, rfl⟩
          refine wS_cons (wS_ret ?_)
          simp only [wE_var, wE_non, wE_bl, wE_int, wE_str, wE_tup, wE_lst, wE_bin, wE_cmp, wE_and, wE_or, wE_not, wE_ite, wE_idx, wE_call, wE_bi, wE_mt, wL_nil, wL_cons, wR_some, wV_some, wB_some, wG_some, wX_some, wT_bl, wT_int, wT_non, wT_tup, bindP, bindPs, wipeP, List.getElem?_cons_zero, List.getElem?_cons_succ, List.set_cons_zero, List.set_cons_succ, List.length_cons, List.length_nil, pbin_add, pbin_sub, pbi_int, pbi_lenT, pbi_tupT, isTup_tup, isTup_str, isTup_int, isTup_bl, isTup_non, isBl_bl, isBl_int, isBl_str, isInt_int, isInt_str, isStr_str, pcmp_lt, pcmp_le, pcmp_gt, pcmp_ge, pcmp_eqI, pcmp_neI, pcmp_eqS, pcmp_neS, pcmp_eqB, pcmp_isN, pcmp_isT, pcmp_isS, pcmp_isI, pcmp_isB, pcmp_isnotN, pcmp_isnotT, pcmp_isnotS, seq_tup, pidx_tup, atP_0, atP_1, atP_2, atP_3, SZ_le, SZ_lt, true_implies, false_implies, Bool.true_eq_false, Bool.false_eq_true, and_true, true_and, decide_eq_true_eq, decide_eq_false_iff_not, Bool.not_eq_true', Bool.not_eq_false', Nat.reduceLeDiff, Nat.reduceAdd, Nat.zero_le, Bool.not_true, Bool.not_false]
          refine wC_mono (reached_ok (n := 7) (a := tru) s (by unfold uni; simp)) fun v h8 ⟨Bf, nB, mB, lB, hv, k8⟩ => ?_
          subst hv
          have hB : Bf.flatMap (mkrs D) = [] := by
            rw [List.flatMap_eq_nil_iff]
            intro y hy
            have := reach_tru s ((mB y).1 hy)
            subst this
            unfold mkrs
            rw [look_none s.num.2]; rfl
          rw [hB]
          exact wC_mono (same_ok 1 9 (.tup []) h8 ⟨by simp, by simp⟩ (by omega)) fun r h9 ⟨hr, _⟩ => hr
  obtain ⟨v, h', e, rfl⟩ := main
  exact ⟨h', e⟩
end Mi.K6
set_option Elab.async false
set_option linter.all false
set_option maxRecDepth 100000
set_option maxHeartbeats 0
namespace Mi.K6
open PySem PySem.Spec PyProof.Rows L2 Mi
abbrev top (i : Nat) : Stmt := PySem.Challenge.pw_toldcost_k06_data_that_hold_data.main.body.getD i (.Pass ⟨0, 0, 0, 0⟩)
def T : Tb where
  pf := [⟨"fun_of", C8.fnArgs (top 1), C8.fnBody (top 1), C8.fnScope (top 1), ["program", "name"], ["program", "name", "own"]⟩,
    ⟨"maker_of", C8.fnArgs (top 2), C8.fnBody (top 2), C8.fnScope (top 2), ["program", "maker"], ["program", "maker", "name", "makers", "place", "own", "kinds"]⟩,
    ⟨"makers_of", C8.fnArgs (top 3), C8.fnBody (top 3), C8.fnScope (top 3), ["program", "kind"], ["program", "kind"]⟩,
    ⟨"reached_makers", C8.fnArgs (top 4), C8.fnBody (top 4), C8.fnScope (top 4), ["program", "kind"], ["program", "kind", "kinds", "place", "_", "parts", "own", "maker"]⟩,
    ⟨"body_parts", C8.fnArgs (top 5), C8.fnBody (top 5), C8.fnScope (top 5), ["body"], ["body", "word", "own", "row"]⟩,
    ⟨"has_values", C8.fnArgs (top 6), C8.fnBody (top 6), C8.fnScope (top 6), ["program", "kind", "tried"], ["program", "kind", "tried", "_", "parts", "own"]⟩,
    ⟨"first_twice", C8.fnArgs (top 8), C8.fnBody (top 8), C8.fnScope (top 8), ["names"], ["names", "place", "name"]⟩,
    ⟨"top_fault", C8.fnArgs (top 9), C8.fnBody (top 9), C8.fnScope (top 9), ["program"], ["program", "own", "twice", "_", "kinds", "data", "parts", "kind", "name", "parameters", "maker", "part"]⟩,
    ⟨"pattern_names", C8.fnArgs (top 10), C8.fnBody (top 10), C8.fnScope (top 10), ["pattern"], ["pattern", "own", "name"]⟩,
    ⟨"pattern_makers", C8.fnArgs (top 11), C8.fnBody (top 11), C8.fnScope (top 11), ["pattern"], ["pattern", "own", "row"]⟩,
    ⟨"pattern_fault", C8.fnArgs (top 12), C8.fnBody (top 12), C8.fnScope (top 12), ["program", "pattern"], ["program", "pattern", "maker", "many", "own", "twice"]⟩,
    ⟨"used_here", C8.fnArgs (top 13), C8.fnBody (top 13), C8.fnScope (top 13), ["program", "body", "names"], ["program", "body", "names", "word", "own"]⟩,
    ⟨"body_fault", C8.fnArgs (top 14), C8.fnBody (top 14), C8.fnScope (top 14), ["program", "body", "names"], ["program", "body", "names", "own", "first", "pattern", "inner", "part"]⟩,
    ⟨"scope_fault", C8.fnArgs (top 15), C8.fnBody (top 15), C8.fnScope (top 15), ["program"], ["program", "found", "_", "parameters", "body", "name"]⟩,
    ⟨"_law_box", C8.fnArgs (top 17), C8.fnBody (top 17), C8.fnScope (top 17), ["script", "first", "last"], ["script", "first", "last"]⟩,
    ⟨"_law_digits", C8.fnArgs (top 18), C8.fnBody (top 18), C8.fnScope (top 18), ["script", "first", "last"], ["script", "first", "last", "digits", "k", "cell", "turn", "seed"]⟩,
    ⟨"_law_cell", C8.fnArgs (top 19), C8.fnBody (top 19), C8.fnScope (top 19), ["script", "k"], ["script", "k"]⟩,
    ⟨"_law_held", C8.fnArgs (top 20), C8.fnBody (top 20), C8.fnScope (top 20), ["box"], ["box", "names", "datas", "k", "makers", "j", "parts", "i"]⟩,
    ⟨"_law_draw", C8.fnArgs (top 21), C8.fnBody (top 21), C8.fnScope (top 21), ["box", "many"], ["box", "many", "at"]⟩,
    ⟨"_law_pick", C8.fnArgs (top 22), C8.fnBody (top 22), C8.fnScope (top 22), ["box", "rows"], ["box", "rows"]⟩,
    ⟨"_law_filled", C8.fnArgs (top 23), C8.fnBody (top 23), C8.fnScope (top 23), ["datas", "without"], ["datas", "without", "found", "turn", "name", "makers", "own", "maker", "parts", "part"]⟩,
    ⟨"_law_same", C8.fnArgs (top 24), C8.fnBody (top 24), C8.fnScope (top 24), ["actual", "expected"], ["actual", "expected", "k"]⟩,
    ⟨"_law_makers_in", C8.fnArgs (top 25), C8.fnBody (top 25), C8.fnScope (top 25), ["program", "kind"], ["program", "kind", "kinds", "turn", "own", "maker", "parts", "found", "part"]⟩,
    ⟨"law", C8.fnArgs (top 26), C8.fnBody (top 26), C8.fnScope (top 26), ["script"], ["script", "box", "datas", "program", "filled", "name", "makers", "empty", "k", "other", "more", "left", "kind"]⟩]
  fs := [("fun_of", 0, 2), ("maker_of", 1, 2), ("makers_of", 2, 2), ("reached_makers", 3, 2), ("body_parts", 4, 1), ("has_values", 5, 3), ("first_twice", 6, 1), ("top_fault", 7, 1), ("pattern_names", 8, 1), ("pattern_makers", 9, 1), ("pattern_fault", 10, 2), ("used_here", 11, 3), ("body_fault", 12, 3), ("scope_fault", 13, 1), ("_law_box", 14, 3), ("_law_digits", 15, 3), ("_law_cell", 16, 2), ("_law_held", 17, 1), ("_law_draw", 18, 2), ("_law_pick", 19, 2), ("_law_filled", 20, 2), ("_law_same", 21, 2), ("_law_makers_in", 22, 2), ("law", 23, 1)]
  gs := []
  bs := ["len", "tuple", "list", "int", "str", "abs", "sum", "sorted", "dict", "set", "bool", "max", "min", "isinstance", "range", "enumerate", "zip", "all", "any"]
  d := 3

def fn : List He.DefD := T.pf.map dd
def fa : List He.Fa := (T.pf.map fun p => .glo p.name) ++ T.bs.map fun x => .free x
abbrev R : PySem.W.OpenRow := PySem.W.OpenLaw.row PySem.Challenge.rw_toldcost_k06_data_that_hold_data
abbrev hk : PySem.W.Hook := He.hookX 4 fa fn [] (tfOf T) (fun _ => true)
def ob (s : PySem.W.SharedT) : He.AlX := He.obsX 4 fa fn [] (tfOf T) (fun _ => true) (HandSHeadRun.getT s)
theorem ob_eq (s : PySem.W.SharedT) : ob s = hk.obs s.abs := He.obsX_eq (HandSHeadRun.getT_eq s)
def loose : List Str := ["fun_of", "maker_of", "makers_of", "reached_makers", "body_parts", "has_values", "first_twice", "top_fault", "pattern_names", "pattern_makers", "pattern_fault", "used_here", "body_fault", "scope_fault", "_law_box", "_law_digits", "_law_cell", "_law_held", "_law_draw", "_law_pick", "_law_filled", "_law_same", "_law_makers_in", "__name__"]
theorem okF : okFns T P.funs T.pf = true := by decide +kernel
theorem okN : okNames P T = true := by decide +kernel
theorem run (w : World) : HandSHeadRun.RunEq R (PySem.W.view R.prog [26]) hk ob 4000 loose w := by
  intro os
  kernel_rfl
theorem binds : ∀ p ∈ T.pf, ∀ (kV doc pm : Value) (an : Option Addr) (cdv ct : Value) (us : List Value), us.length = p.ps.length → bindArgs (PySem.W.fnOf p.name p.name p.params p.body p.scope .none kV doc pm an cdv ct) ⟨us, []⟩ = pure (p.ps.zip us) := by
    unfold T
    dsimp only
    refine List.forall_mem_cons.2 ⟨fun kV doc pm an cdv ct us hl => match us, hl with | [_, _], _ => rfl, ?_⟩
    refine List.forall_mem_cons.2 ⟨fun kV doc pm an cdv ct us hl => match us, hl with | [_, _], _ => rfl, ?_⟩
    refine List.forall_mem_cons.2 ⟨fun kV doc pm an cdv ct us hl => match us, hl with | [_, _], _ => rfl, ?_⟩
    refine List.forall_mem_cons.2 ⟨fun kV doc pm an cdv ct us hl => match us, hl with | [_, _], _ => rfl, ?_⟩
    refine List.forall_mem_cons.2 ⟨fun kV doc pm an cdv ct us hl => match us, hl with | [_], _ => rfl, ?_⟩
    refine List.forall_mem_cons.2 ⟨fun kV doc pm an cdv ct us hl => match us, hl with | [_, _, _], _ => rfl, ?_⟩
    refine List.forall_mem_cons.2 ⟨fun kV doc pm an cdv ct us hl => match us, hl with | [_], _ => rfl, ?_⟩
    refine List.forall_mem_cons.2 ⟨fun kV doc pm an cdv ct us hl => match us, hl with | [_], _ => rfl, ?_⟩
    refine List.forall_mem_cons.2 ⟨fun kV doc pm an cdv ct us hl => match us, hl with | [_], _ => rfl, ?_⟩
    refine List.forall_mem_cons.2 ⟨fun kV doc pm an cdv ct us hl => match us, hl with | [_], _ => rfl, ?_⟩
    refine List.forall_mem_cons.2 ⟨fun kV doc pm an cdv ct us hl => match us, hl with | [_, _], _ => rfl, ?_⟩
    refine List.forall_mem_cons.2 ⟨fun kV doc pm an cdv ct us hl => match us, hl with | [_, _, _], _ => rfl, ?_⟩
    refine List.forall_mem_cons.2 ⟨fun kV doc pm an cdv ct us hl => match us, hl with | [_, _, _], _ => rfl, ?_⟩
    refine List.forall_mem_cons.2 ⟨fun kV doc pm an cdv ct us hl => match us, hl with | [_], _ => rfl, ?_⟩
    refine List.forall_mem_cons.2 ⟨fun kV doc pm an cdv ct us hl => match us, hl with | [_, _, _], _ => rfl, ?_⟩
    refine List.forall_mem_cons.2 ⟨fun kV doc pm an cdv ct us hl => match us, hl with | [_, _, _], _ => rfl, ?_⟩
    refine List.forall_mem_cons.2 ⟨fun kV doc pm an cdv ct us hl => match us, hl with | [_, _], _ => rfl, ?_⟩
    refine List.forall_mem_cons.2 ⟨fun kV doc pm an cdv ct us hl => match us, hl with | [_], _ => rfl, ?_⟩
    refine List.forall_mem_cons.2 ⟨fun kV doc pm an cdv ct us hl => match us, hl with | [_, _], _ => rfl, ?_⟩
    refine List.forall_mem_cons.2 ⟨fun kV doc pm an cdv ct us hl => match us, hl with | [_, _], _ => rfl, ?_⟩
    refine List.forall_mem_cons.2 ⟨fun kV doc pm an cdv ct us hl => match us, hl with | [_, _], _ => rfl, ?_⟩
    refine List.forall_mem_cons.2 ⟨fun kV doc pm an cdv ct us hl => match us, hl with | [_, _], _ => rfl, ?_⟩
    refine List.forall_mem_cons.2 ⟨fun kV doc pm an cdv ct us hl => match us, hl with | [_, _], _ => rfl, ?_⟩
    refine List.forall_mem_cons.2 ⟨fun kV doc pm an cdv ct us hl => match us, hl with | [_], _ => rfl, ?_⟩
    exact fun _ h => absurd h List.not_mem_nil
end Mi.K6
open PySem PySem.W PySem.Calls PyProof.Rows
theorem PySem.Challenge.cw_toldcost_k06_data_that_hold_data_holds : PySem.Challenge.rw_toldcost_k06_data_that_hold_data.Holds := by
  w_on; o_law
  refine HandSHeadRun.head_any (r := OpenLaw.row PySem.Challenge.rw_toldcost_k06_data_that_hold_data) (q := view (OpenLaw.row PySem.Challenge.rw_toldcost_k06_data_that_hold_data).prog [26]) (H := Mi.K6.hk) (ob := Mi.K6.ob) (M := 4000) (loose := Mi.K6.loose) (d := HandSHeadRun.topDef (OpenLaw.row PySem.Challenge.rw_toldcost_k06_data_that_hold_data).prog 26) (kwd := []) Mi.K6.ob_eq
    (by kernel_rfl) (fun s => by kernel_rfl) Mi.K6.run (by kernel_rfl) (by kernel_rfl) (by kernel_rfl) (by rfl) (by first | assumption | decide +kernel) (by decide +kernel) ⟨rfl, rfl, rfl, rfl, rfl, by decide +kernel⟩ ?hw ?hc
  case hw => w_witness2
  case hc =>
    refine LamX.walk_ofTsE (l := PySem.Challenge.rw_toldcost_k06_data_that_hold_data) (n := 63) (k := (Mi.K6.T.d + 1) * 10) (x := "script") (CX := fun _ => L2.CX0) rfl (by decide) (by kernel_rfl) ⟨rfl, by decide, by decide⟩ ?F (fun _ _ _ _ _ z => z)
    intro w mg fa h Y G hmg0
    obtain ⟨K, KX, c⟩ := Y
    have hmg : mg ("law" : PySem.Str) = some (.ref fa) := by
      have e : (HandSHeadRun.topDef (OpenLaw.row PySem.Challenge.rw_toldcost_k06_data_that_hold_data).prog 26).name = ("law" : PySem.Str) := by kernel_rfl
      rw [← e]
      exact hmg0
    exact ⟨K, KX, Mi.law_at (T := Mi.K6.T) (P := Mi.K6.P) (i := 23) c KX G (fun p hp => List.mem_append_left _ (List.mem_map.mpr ⟨p, hp, rfl⟩)) (fun y hy => List.mem_append_right _ (List.mem_map.mpr ⟨y, hy, rfl⟩))
      Mi.K6.binds (fun x g e => nomatch e) Mi.K6.okF Mi.K6.okN rfl rfl rfl rfl hmg Mi.K6.plain6⟩
