import PyProof.Rows.All
import Wide.All
import OpenK.AllK
import Wide.FinOn
import PyProof.EqAt
import PyProof.EqKinds
import PyProof.TupleCall
import KE.KLam
import KE.KeyNested
import HandS.ForMost
import HandS.ForExc
import HandS.Lambda
import HandS.Defaults
import HandS.TupAny
import HandS.TupMul
import HandS.Deep
import HandS.Style
import HandS.Codes
import KE.KRevSl
import HandS.IsInst
import HandS.Conv
import HandS.SortInts
import HandS.Replace
import HandS.ReplaceList
import HandS.ExcCtx
import HandS.HotCalls
import HandS.Nested
import HandS.Walk
import HandS.Iter
import HandS.Zip
import HandS.Comp
import KE.GoesEnum
import HandS.ExcOwn
import HandS.Strs
import HandS.ReplaceLit
import KE.GoesComp
import PyProof.RulesMatch
import HandS.Hot
import HandS.ExcIs
import HandS.HeadHook4
import HandS.HeadWalk
import HandS.WordsExc
import HandS.Base
import HandS.Call
import HandS.Ends
import HandS.More
import HandS.Words
import HandS.Head0
import HandS.Head1
import HandS.Head2
import HandS.HeadEnd
import HandS.HeadHook1
import HandS.HeadHook2
import HandS.HeadHook3
import PySem.Challenge.RW_otherreader_k02_whole_texts_read
set_option Elab.async false
set_option linter.all false
section
/-! Mini: a small Python over plain data, evaluated; no kit in sight. -/
namespace Mini

/-- values: a text is its code points; a list or dict is told by what it holds; a cell is a list that is changed in place through several names -/
inductive D where
  | non
  | bl (b : Bool)
  | int (i : Int)
  | str (s : List Nat)
  | tup (xs : List D)
  | lst (xs : List D)
  | dic (ks vs : List D)
  | cell (n : Nat)
  | fn (n : Nat)
  deriving Inhabited

mutual
def D.beq : D → D → Bool
  | .non, .non => true
  | .bl a, .bl b => a == b
  | .int a, .int b => a == b
  | .str a, .str b => a == b
  | .tup a, .tup b => D.beqs a b
  | .lst a, .lst b => D.beqs a b
  | .dic a a', .dic b b' => D.beqs a b && D.beqs a' b'
  | .cell a, .cell b => a == b
  | .fn a, .fn b => a == b
  | _, _ => false
def D.beqs : List D → List D → Bool
  | [], [] => true
  | x :: xs, y :: ys => D.beq x y && D.beqs xs ys
  | _, _ => false
end

mutual
/-- Python's ==, of data -/
def eqv : D → D → Bool
  | .non, .non => true
  | .bl a, .bl b => a == b
  | .bl a, .int j => (if a then 1 else 0) == j
  | .int i, .bl b => i == (if b then 1 else 0)
  | .int a, .int b => a == b
  | .str a, .str b => a == b
  | .tup a, .tup b => eqvs a b
  | .lst a, .lst b => eqvs a b
  | _, _ => false
def eqvs : List D → List D → Bool
  | [], [] => true
  | x :: xs, y :: ys => eqv x y && eqvs xs ys
  | _, _ => false
end
mutual
/-- data that == may be asked of, nested at most n deep -/
def okD : D → Nat → Bool
  | .non, _ => true
  | .bl _, _ => true
  | .int _, _ => true
  | .str _, _ => true
  | .tup _, 0 => false
  | .tup xs, n + 1 => okDs xs n
  | .lst _, 0 => false
  | .lst xs, n + 1 => okDs xs n
  | _, _ => false
def okDs : List D → Nat → Bool
  | [], _ => true
  | x :: xs, n => okD x n && okDs xs n
end

/-- a name's place -/
inductive Sl where
  | non
  | val (d : D)
  | own (d : D)
  | clo (k : Nat) (cap : List D)
  | lam (k : Nat)
  deriving Inhabited

abbrev Env := List Sl
abbrev Store := List (List D)

/-- an error: its class, what it bears -/
structure Xc where
  cls : Nat
  pay : Option D

inductive Res (α : Type) where
  | ok (a : α) (st : Store)
  | raise (x : Xc) (st : Store)
  | stuck

inductive SRes where
  | nx (ρ : Env) (st : Store)
  | brk (ρ : Env) (st : Store)
  | cnt (ρ : Env) (st : Store)
  | ret (d : D) (st : Store)
  | raise (x : Xc) (st : Store)
  | stuck

def Res.bind {α β : Type} : Res α → (α → Store → Res β) → Res β
  | .ok a st, f => f a st
  | .raise x st, _ => .raise x st
  | .stuck, _ => .stuck
def lift {α : Type} (o : Option α) (st : Store) : Res α := match o with
  | some a => .ok a st
  | none => .stuck
/-- a part whose errors may not leave it -/
def Res.calm {α : Type} : Res α → Res α
  | .raise _ _ => .stuck
  | r => r
def Res.toS : Res D → (D → Store → SRes) → SRes
  | .ok a st, f => f a st
  | .raise x st, _ => .raise x st
  | .stuck, _ => .stuck

inductive BOp where
  | add | sub | mul | fdiv | mod | pow
  deriving DecidableEq
inductive COp where
  | eq | ne | lt | le | gt | ge | isin | notin | isN | notN
  deriving DecidableEq
inductive Prim where
  | len | all | any | sorted | list | tuple | int | str | sum | listRange
  | isInt | isBool | isStr | isTuple | isList | isSeq
  deriving DecidableEq
inductive Meth where
  | sindex | tindex | join | split | replace
  deriving DecidableEq
inductive Tgt where
  | name (i : Nat)
  | tup (ts : List Tgt)

mutual
/-- expressions -/
inductive Ex where
  | con (d : D)
  | var (i : Nat)
  | peek (i : Nat)
  | glob (n : Nat)
  | fnv (f : Nat)
  | tup (es : List Ex)
  | lst (es : List Ex)
  | cellL (es : List Ex)
  | dict0
  | dict1 (k v : Ex)
  | bin (o : BOp) (a b : Ex)
  | cmp (o : COp) (a b : Ex)
  | chain (o p : COp) (a b c : Ex)
  | and (a b : Ex)
  | or (a b : Ex)
  | not (a : Ex)
  | neg (a : Ex)
  | ite (c a b : Ex)
  | idx (a i : Ex)
  | slice (a : Ex) (lo hi : Option Ex)
  | rev (a : Ex)
  | call (f : Nat) (as : List Ar)
  | callv (i : Nat) (as : List Ar)
  | callc (i : Nat) (as : List Ex)
  | prim (p : Prim) (a : Ex)
  | meth (m : Meth) (o : Ex) (as : List Ex)
  | lc (elt : Ex) (t : Tgt) (it : Itr) (ifs : Option Ex)
/-- an argument: a value; a function made here or handed on -/
inductive Ar where
  | e (a : Ex)
  | slot (i : Nat)
  | lam (k : Nat) (cap : List Nat)
/-- what is walked -/
inductive Itr where
  | e (a : Ex)
  | range (a : Option Ex) (b : Ex)
  | enum (a : Ex)
  | zip (a b : Ex)
end

inductive Stm where
  | set (i : Nat) (own : Bool) (e : Ex)
  | setT (t : Tgt) (e : Ex)
  | par (is : List Nat) (owns : List Bool) (es : List Ex)
  | setLam (i k : Nat)
  | append (i : Nat) (e : Ex)
  | pop (j i : Nat)
  | setIdx (i : Nat) (k v : Ex)
  | freeze (i : Nat)
  | expr (e : Ex)
  | ret (e : Ex)
  | ite (c : Ex) (a b : List Stm)
  | «while» (c : Ex) (b : List Stm)
  | «for» (t : Tgt) (it : Itr) (b : List Stm)
  | brk | cnt | pass
  | raise (x : Nat)
  | raiseP (x : Nat) (e : Ex)

inductive Bdy where
  | stmts (b : List Stm)
  | expr (e : Ex)
  | tryP (tab : List (List Nat))
structure Dfn where
  np : Nat
  ns : Nat
  body : Bdy
structure Prg where
  globs : List D
  defs : List Dfn

/-! ### operations on values -/
/-- the model's line for sizes -/
def line : Nat := 16777216
def fits {α : Type} (xs : List α) : Bool := decide (xs.length ≤ line)
def mkStr (s : List Nat) : Option D := if fits s then some (.str s) else none
def mkTup (s : List D) : Option D := if fits s then some (.tup s) else none
def mkLst (s : List D) : Option D := if fits s then some (.lst s) else none
def rep {α : Type} (xs : List α) (n : Nat) : List α := (List.replicate n xs).flatten

def smallI (i : Int) : Bool := decide (-(2 ^ 64) < i) && decide (i < 2 ^ 64)
def binD : BOp → D → D → Option D
  | .add, .int a, .int b => some (.int (a + b))
  | .add, .str a, .str b => mkStr (a ++ b)
  | .add, .lst a, .lst b => mkLst (a ++ b)
  | .add, .tup a, .tup b => mkTup (a ++ b)
  | .sub, .int a, .int b => some (.int (a - b))
  | .mul, .int a, .int b => if smallI a || smallI b then some (.int (a * b)) else none
  | .mul, .tup a, .int n => if decide (0 ≤ n) && decide (n ≤ 1000) && decide (a.length ≤ 1000) then mkTup (rep a n.toNat) else none
  | .fdiv, .int a, .int b => if decide (0 < b) && decide (b < 1073741824) then some (.int (a / b)) else none
  | .mod, .int a, .int b => if decide (0 < b) then some (.int (a % b)) else none
  | .pow, .int a, .int b => if decide (0 ≤ b) && decide (b ≤ 1000000) && decide (a.natAbs < 2 ^ 64) then some (.int (a ^ b.toNat)) else none
  | _, _, _ => none

def eqD (x y : D) : Option Bool := if okD x 64 && okD y 64 then some (eqv x y) else none
/-- among what a sequence holds -/
def inL (x : D) (ys : List D) : Option Bool := if okD x 64 && okDs ys 63 then some (ys.any fun y => eqv y x) else none
def hasKey (ks : List D) (x : D) : Bool := ks.any fun k => eqv k x
mutual
/-- keys of dicts: texts, None, whole numbers, tuples of such, at most n deep -/
def keyD : D → Nat → Bool
  | .non, _ => true
  | .int _, _ => true
  | .str _, _ => true
  | .tup _, 0 => false
  | .tup xs, n + 1 => keyDs xs n
  | _, _ => false
def keyDs : List D → Nat → Bool
  | [], _ => true
  | x :: xs, n => keyD x n && keyDs xs n
end
/-- what a dict may be asked for: a tuple of such -/
def keyT : D → Bool
  | .tup xs => keyDs xs 7
  | _ => false
def inD (x : D) : D → Option Bool
  | .lst ys => inL x ys
  | .tup ys => inL x ys
  | _ => none
def isNonB : D → Bool
  | .non => true
  | _ => false
def cmpD : COp → D → D → Option Bool
  | .eq, x, y => eqD x y
  | .ne, x, y => (eqD x y).map (!·)
  | .lt, .int a, .int b => some (decide (a < b))
  | .le, .int a, .int b => some (decide (a ≤ b))
  | .gt, .int a, .int b => some (decide (b < a))
  | .ge, .int a, .int b => some (decide (b ≤ a))
  | .isin, x, y => inD x y
  | .notin, x, y => (inD x y).map (!·)
  | .isN, x, .non => some (isNonB x)
  | .notN, x, .non => some (!isNonB x)
  | _, _, _ => none
def truth : D → Option Bool
  | .bl b => some b
  | _ => none

/-- the place of an index -/
def ixN (n : Nat) (i : Int) : Option Nat :=
  if 0 ≤ i then (if i < n then some i.toNat else none) else (if -(n : Int) ≤ i then some (i + n).toNat else none)
/-- the bounds of a slice -/
def clampI (n : Nat) (i : Int) : Nat := if i < 0 then (i + n).toNat else min i.toNat n
def cut {α : Type} (xs : List α) (lo hi : Option Int) : List α :=
  let a := match lo with | some i => clampI xs.length i | none => 0
  let b := match hi with | some i => clampI xs.length i | none => xs.length
  (xs.take b).drop a
def dicGet (k : D) : List D → List D → Option D
  | x :: ks, v :: vs => if eqv x k then some v else dicGet k ks vs
  | _, _ => none
def dicPut (k v : D) : List D → List D → List D × List D
  | x :: ks, y :: vs => if eqv x k then (x :: ks, v :: vs) else let r := dicPut k v ks vs; (x :: r.1, y :: r.2)
  | _, _ => ([k], [v])
def idxD (st : Store) : D → D → Option D
  | .lst xs, .int i => (ixN xs.length i).bind fun k => xs[k]?
  | .tup xs, .int i => (ixN xs.length i).bind fun k => xs[k]?
  | .str s, .int i => (ixN s.length i).bind fun k => (s[k]?).map fun c => .str [c]
  | .cell n, .int i => (st[n]?).bind fun xs => (ixN xs.length i).bind fun k => xs[k]?
  | _, _ => none
def intO : D → Option (Option Int)
  | .int i => some (some i)
  | _ => none
def sliceD (x : D) (a b : Option Int) : Option D := match x with
  | .lst xs => some (.lst (cut xs a b))
  | .tup xs => some (.tup (cut xs a b))
  | .str s => some (.str (cut s a b))
  | _ => none
def revD : D → Option D
  | .lst xs => some (.lst xs.reverse)
  | .tup xs => some (.tup xs.reverse)
  | _ => none
/-- what a for walks -/
def items : D → Option (List D)
  | .lst xs => some xs
  | .tup xs => some xs
  | .str s => some (s.map fun c => .str [c])
  | _ => none
def bools : List D → Option (List Bool)
  | [] => some []
  | .bl b :: r => (bools r).map (b :: ·)
  | _ => none
def intL : List D → Option (List Int)
  | [] => some []
  | .int b :: r => (intL r).map (b :: ·)
  | _ => none
/-- what a cell may hold: whole numbers -/
def cellOk (ds : List D) : Bool := fits ds && (intL ds).isSome
def texts : List D → Option (List (List Nat))
  | [] => some []
  | .str b :: r => (texts r).map (b :: ·)
  | _ => none
def ltL : List Nat → List Nat → Bool
  | [], [] => false
  | [], _ :: _ => true
  | _ :: _, [] => false
  | a :: as, b :: bs => if a < b then true else if b < a then false else ltL as bs
/-- set among those that rise -/
def insG {α : Type} (lt : α → α → Bool) (x : α) : List α → List α
  | [] => [x]
  | y :: ys => if lt y x then y :: insG lt x ys else x :: y :: ys
def sortG {α : Type} (lt : α → α → Bool) (xs : List α) : List α := xs.foldr (insG lt) []
def sortD (xs : List D) : Option D :=
  if decide (xs.length < 64) then match texts xs with
    | some bs => some (.lst ((sortG ltL bs).map .str))
    | none => (intL xs).map fun ns => .lst ((sortG (fun a b => decide (a < b)) ns).map .int)
  else none

def splitOn (sep : Nat) : List Nat → List (List Nat)
  | [] => [[]]
  | c :: r => if c = sep then [] :: splitOn sep r else match splitOn sep r with
    | w :: ws => (c :: w) :: ws
    | [] => [[c]]
def joinL (sep : List Nat) : List (List Nat) → List Nat
  | [] => []
  | [x] => x
  | x :: y :: r => x ++ sep ++ joinL sep (y :: r)
/-- the first place of x -/
def idxG {α : Type} [DecidableEq α] (x : α) : List α → Option Nat
  | [] => none
  | y :: ys => if y = x then some 0 else (idxG x ys).map (· + 1)

def digits : Nat → List Nat
  | n => (Nat.toDigits 10 n).map Char.toNat
def primD : Prim → D → Option D
  | .len, .lst xs => some (.int xs.length)
  | .len, .tup xs => some (.int xs.length)
  | .len, .str s => some (.int s.length)
  | .all, .lst xs => (bools xs).map fun b => .bl (b.all id)
  | .any, .lst xs => (bools xs).map fun b => .bl (b.any id)
  | .sorted, .lst xs => sortD xs
  | .list, .lst xs => some (.lst xs)
  | .list, .tup xs => some (.lst xs)
  | .list, .str s => some (.lst (s.map fun c => .str [c]))
  | .tuple, .lst xs => some (.tup xs)
  | .tuple, .tup xs => some (.tup xs)
  | .int, .int i => some (.int i)
  | .str, .int i => if decide (0 ≤ i) && decide (i < 10) then some (.str [48 + i.toNat]) else none
  | .sum, .lst xs => (intL xs).map fun b => .int b.sum
  | .listRange, .int n => if decide (n ≤ line) && decide (-(line : Int) ≤ n) then some (.lst ((List.range n.toNat).map fun (k : Nat) => D.int (k : Int))) else none
  | .isInt, .int _ => some (.bl true)
  | .isInt, .bl _ => some (.bl true)
  | .isInt, .non => some (.bl false)
  | .isInt, .str _ => some (.bl false)
  | .isInt, .tup _ => some (.bl false)
  | .isInt, .lst _ => some (.bl false)
  | .isBool, .bl _ => some (.bl true)
  | .isBool, .int _ => some (.bl false)
  | .isBool, .non => some (.bl false)
  | .isBool, .str _ => some (.bl false)
  | .isBool, .tup _ => some (.bl false)
  | .isBool, .lst _ => some (.bl false)
  | .isStr, .str _ => some (.bl true)
  | .isStr, .int _ => some (.bl false)
  | .isStr, .bl _ => some (.bl false)
  | .isStr, .non => some (.bl false)
  | .isStr, .tup _ => some (.bl false)
  | .isStr, .lst _ => some (.bl false)
  | .isTuple, .tup _ => some (.bl true)
  | .isTuple, .int _ => some (.bl false)
  | .isTuple, .bl _ => some (.bl false)
  | .isTuple, .non => some (.bl false)
  | .isTuple, .str _ => some (.bl false)
  | .isTuple, .lst _ => some (.bl false)
  | .isList, .lst _ => some (.bl true)
  | .isList, .int _ => some (.bl false)
  | .isList, .bl _ => some (.bl false)
  | .isList, .non => some (.bl false)
  | .isList, .str _ => some (.bl false)
  | .isList, .tup _ => some (.bl false)
  | .isSeq, .lst _ => some (.bl true)
  | .isSeq, .tup _ => some (.bl true)
  | .isSeq, .int _ => some (.bl false)
  | .isSeq, .bl _ => some (.bl false)
  | .isSeq, .non => some (.bl false)
  | .isSeq, .str _ => some (.bl false)
  | _, _ => none
/-- the first place of a sign in a text -/
def sixD (x y : D) : Option D := match x, y with
  | .str s, .str [c] => (idxG c s).map fun (k : Nat) => .int k
  | _, _ => none
/-- the first place of a text in a tuple of texts -/
def tixD (x y : D) : Option D := match x, y with
  | .tup xs, .str z => (texts xs).bind fun ys => (idxG z ys).map fun (k : Nat) => .int k
  | _, _ => none
/-- a text without a sign -/
def repD (x y z : D) : Option D := match x, y, z with
  | .str s, .str [c], .str [] => if fits s then some (.str (s.filter fun x => x != c)) else none
  | _, _, _ => none
def methD : Meth → D → List D → Option D
  | .sindex, x, [y] => sixD x y
  | .tindex, x, [y] => tixD x y
  | .replace, x, [y, z] => repD x y z
  | .join, .str sep, [.lst xs] => (texts xs).bind fun ys => mkStr (joinL sep ys)
  | .split, .str s, [.str [c]] => if decide (s.length + 2 ≤ line) then some (.lst ((splitOn c s).map .str)) else none
  | _, _, _ => none

def rangeD : Option Int → D → Option (List D)
  | none, .int n => if decide (n ≤ line) && decide (-(line : Int) ≤ n) then some ((List.range n.toNat).map fun (k : Nat) => D.int (k : Int)) else none
  | some m, .int n => if decide (n ≤ line) && decide (-(line : Int) ≤ n) && decide (m ≤ line) && decide (-(line : Int) ≤ m) then some ((List.range (n - m).toNat).map fun (k : Nat) => D.int (m + (k : Int))) else none
  | _, _ => none
def enumL : Nat → List D → List D
  | _, [] => []
  | n, x :: xs => .tup [.int n, x] :: enumL (n + 1) xs
def enumD : D → Option (List D)
  | .lst xs => some (enumL 0 xs)
  | .tup xs => some (enumL 0 xs)
  | _ => none
def zipD : D → D → Option (List D)
  | .lst xs, .lst ys => some ((xs.zip ys).map fun p => .tup [p.1, p.2])
  | .tup xs, .tup ys => some ((xs.zip ys).map fun p => .tup [p.1, p.2])
  | _, _ => none

/-! ### names -/
def bindT : Tgt → D → Env → Option Env
  | .name i, d, ρ => if i < ρ.length then some (ρ.set i (.val d)) else none
  | .tup ts, .tup ds, ρ => bindTs ts ds ρ
  | _, _, _ => none
where bindTs : List Tgt → List D → Env → Option Env
  | [], [], ρ => some ρ
  | t :: ts, d :: ds, ρ => (bindT t d ρ).bind (bindTs ts ds)
  | _, _, _ => none
def slotsT : Tgt → List Nat
  | .name i => [i]
  | .tup ts => slotsTs ts
where slotsTs : List Tgt → List Nat
  | [] => []
  | t :: ts => slotsT t ++ slotsTs ts
def wipeE (ρ : Env) : List Nat → Env
  | [] => ρ
  | v :: vs => (wipeE ρ vs).set v .non
def varD (ρ : Env) (i : Nat) : Option D := match ρ[i]? with
  | some (.val d) => some d
  | _ => none
def peekD (ρ : Env) (i : Nat) : Option D := match ρ[i]? with
  | some (.val d) => some d
  | some (.own d) => some d
  | _ => none
def capD (ρ : Env) : List Nat → Option (List D)
  | [] => some []
  | i :: is => (varD ρ i).bind fun d => (capD ρ is).map (d :: ·)
def slotD (ρ : Env) (cap : Nat → List Nat) (i : Nat) : Option Sl := match ρ[i]? with
  | some (.clo k c) => some (.clo k c)
  | some (.lam k) => (capD ρ (cap k)).map (.clo k)
  | _ => none

/-! ### the evaluator -/
abbrev CallF := Nat → List Sl → Store → Res D
section
variable (G : List D) (cf : CallF)

/-- the items that a comprehension makes, behind those it made -/
def lcL (bind : D → Option Env) (cond : Env → Store → Res Bool) (elt : Env → Store → Res D) : List D → List D → Store → Res (List D)
  | acc, [], st => .ok acc st
  | acc, x :: xs, st => match bind x with
    | none => .stuck
    | some ρ => (cond ρ st).bind fun b st1 => if b then (elt ρ st1).bind fun y st2 => if decide (acc.length < line) then lcL bind cond elt (acc ++ [y]) xs st2 else .stuck
      else lcL bind cond elt acc xs st1

mutual
def evE : Ex → Env → Store → Res D
  | .con d, _, st => .ok d st
  | .var i, ρ, st => lift (varD ρ i) st
  | .peek i, ρ, st => lift (peekD ρ i) st
  | .glob n, _, st => lift (G[n]?) st
  | .tup es, ρ, st => (evEs es ρ st).bind fun ds st1 => lift (mkTup ds) st1
  | .lst es, ρ, st => (evEs es ρ st).bind fun ds st1 => lift (mkLst ds) st1
  | .cellL es, ρ, st => (evEs es ρ st).bind fun ds st1 => if cellOk ds then .ok (.cell st1.length) (st1 ++ [ds]) else .stuck
  | .dict0, _, _ => .stuck
  | .dict1 _ _, _, _ => .stuck
  | .bin o a b, ρ, st => (evE a ρ st).bind fun x st1 => (evE b ρ st1).bind fun y st2 => lift (binD o x y) st2
  | .cmp o a b, ρ, st => (evE a ρ st).bind fun x st1 => (evE b ρ st1).bind fun y st2 => lift ((cmpD o x y).map .bl) st2
  | .chain o p a b c, ρ, st => (evE a ρ st).bind fun x st1 => (evE b ρ st1).bind fun y st2 => (lift (cmpD o x y) st2).bind fun k st3 =>
      if k then (evE c ρ st3).bind fun z st4 => lift ((cmpD p y z).map .bl) st4 else .ok (.bl false) st3
  | .and a b, ρ, st => (evE a ρ st).bind fun x st1 => (lift (truth x) st1).bind fun k st2 => if k then evE b ρ st2 else .ok (.bl false) st2
  | .or a b, ρ, st => (evE a ρ st).bind fun x st1 => (lift (truth x) st1).bind fun k st2 => if k then .ok (.bl true) st2 else evE b ρ st2
  | .not a, ρ, st => (evE a ρ st).bind fun x st1 => lift ((truth x).map fun b => .bl (!b)) st1
  | .neg a, ρ, st => (evE a ρ st).bind fun x st1 => match x with
    | .int i => .ok (.int (-i)) st1
    | _ => .stuck
  | .ite c a b, ρ, st => (evE c ρ st).bind fun x st1 => (lift (truth x) st1).bind fun k st2 => if k then evE a ρ st2 else evE b ρ st2
  | .idx a i, ρ, st => (evE a ρ st).bind fun x st1 => (evE i ρ st1).bind fun y st2 => lift (idxD st2 x y) st2
  | .slice a lo hi, ρ, st => (evE a ρ st).bind fun x st1 => (evI lo ρ st1).bind fun l st2 => (evI hi ρ st2).bind fun h st3 => lift (sliceD x l h) st3
  | .rev a, ρ, st => (evE a ρ st).bind fun x st1 => lift (revD x) st1
  | .call f as, ρ, st => (evAs as ρ st).bind fun ss st1 => cf f ss st1
  | .fnv f, _, st => .ok (.fn f) st
  | .callv i as, ρ, st => match ρ[i]? with
    | some (.val (.fn f)) => (evAs as ρ st).bind fun ss st1 => cf f ss st1
    | _ => .stuck
  | .callc i as, ρ, st => match ρ[i]? with
    | some (.clo k cap) => (evEs as ρ st).bind fun ds st1 => cf k ((ds ++ cap).map .val) st1
    | _ => .stuck
  | .prim p a, ρ, st => (evE a ρ st).bind fun x st1 => lift (primD p x) st1
  | .meth m o as, ρ, st => (evE o ρ st).bind fun x st1 => (evEs as ρ st1).bind fun ys st2 => lift (methD m x ys) st2
  | .lc elt t it ifs, ρ, st => (evIt it ρ st).bind fun xs st1 =>
      (lcL (fun x => bindT t x (wipeE ρ (slotsT t))) (fun ρ' st' => (evT ifs ρ' st').calm) (fun ρ' st' => (evE elt ρ' st').calm) [] xs st1).bind fun ys st2 => .ok (.lst ys) st2
def evEs : List Ex → Env → Store → Res (List D)
  | [], _, st => .ok [] st
  | e :: es, ρ, st => (evE e ρ st).bind fun d st1 => (evEs es ρ st1).bind fun ds st2 => .ok (d :: ds) st2
/-- arguments: values, and functions made here or handed on -/
def evAs : List Ar → Env → Store → Res (List Sl)
  | [], _, st => .ok [] st
  | e :: es, ρ, st => (evA e ρ st).bind fun s st1 => (evAs es ρ st1).bind fun ss st2 => .ok (s :: ss) st2
def evA : Ar → Env → Store → Res Sl
  | .e a, ρ, st => (evE a ρ st).bind fun d st1 => .ok (Sl.val d) st1
  | .slot i, ρ, st => lift (match ρ[i]? with | some (.clo k c) => some (Sl.clo k c) | _ => none) st
  | .lam k cap, ρ, st => lift ((capD ρ cap).map (Sl.clo k)) st
def evI : Option Ex → Env → Store → Res (Option Int)
  | none, _, st => .ok none st
  | some e, ρ, st => (evE e ρ st).bind fun d st1 => lift (intO d) st1
def evT : Option Ex → Env → Store → Res Bool
  | none, _, st => .ok true st
  | some e, ρ, st => (evE e ρ st).bind fun x st1 => lift (truth x) st1
/-- what is walked -/
def evIt : Itr → Env → Store → Res (List D)
  | .range a b, ρ, st => (evI a ρ st).bind fun x st1 => (evE b ρ st1).bind fun y st2 => lift (rangeD x y) st2
  | .enum a, ρ, st => (evE a ρ st).bind fun x st1 => lift (enumD x) st1
  | .zip a b, ρ, st => (evE a ρ st).bind fun x st1 => (evE b ρ st1).bind fun y st2 => lift (zipD x y) st2
  | .e a, ρ, st => (evE a ρ st).bind fun x st1 => lift (items x) st1
end

/-- for, over the items -/
def forL (t : Tgt) (body : Env → Store → SRes) : List D → Env → Store → SRes
  | [], ρ, st => .nx ρ st
  | x :: xs, ρ, st => match bindT t x ρ with
    | none => .stuck
    | some ρ1 => match body ρ1 st with
      | .nx ρ2 st2 => forL t body xs ρ2 st2
      | .cnt ρ2 st2 => forL t body xs ρ2 st2
      | .brk ρ2 st2 => .nx ρ2 st2
      | r => r
/-- while, at most so many turns -/
def whileL (c : Env → Store → Res Bool) (body : Env → Store → SRes) : Nat → Env → Store → SRes
  | 0, _, _ => .stuck
  | n + 1, ρ, st => match c ρ st with
    | .ok true st1 => (match body ρ st1 with
      | .nx ρ2 st2 => whileL c body n ρ2 st2
      | .cnt ρ2 st2 => whileL c body n ρ2 st2
      | .brk ρ2 st2 => .nx ρ2 st2
      | r => r)
    | .ok false st1 => .nx ρ st1
    | .raise x st1 => .raise x st1
    | .stuck => .stuck

/-- a place is given a value -/
def setO (ρ : Env) (i : Nat) (o : Bool) (d : D) : Option Env :=
  if i < ρ.length then (if o then (match d with | .lst _ => some (ρ.set i (.own d)) | .dic _ _ => some (ρ.set i (.own d)) | _ => none) else some (ρ.set i (.val d))) else none
def setOs (ρ : Env) : List Nat → List Bool → List D → Option Env
  | [], [], [] => some ρ
  | i :: is, o :: os, d :: ds => (setO ρ i o d).bind fun ρ1 => setOs ρ1 is os ds
  | _, _, _ => none
def nxO (o : Option Env) (st : Store) : SRes := match o with
  | some ρ => .nx ρ st
  | none => .stuck
/-- a name that may be written at -/
def putOk (ρ : Env) (i : Nat) : Bool := match ρ[i]? with
  | some (.own (.lst _)) => true
  | some (.val (.cell _)) => true
  | _ => false
/-- x[k] = v -/
def putD (ρ : Env) (i : Nat) (k v : D) (st : Store) : SRes := match ρ[i]? with
  | some (.own (.lst xs)) => (match k with
    | .int j => (match ixN xs.length j with
      | some n => .nx (ρ.set i (.own (.lst (xs.set n v)))) st
      | none => .stuck)
    | _ => .stuck)
  | some (.val (.cell c)) => (match k, st[c]?, v with
    | .int j, some xs, .int _ => (match ixN xs.length j with
      | some n => .nx ρ (st.set c (xs.set n v))
      | none => .stuck)
    | _, _, _ => .stuck)
  | _ => .stuck

variable (wf : Nat)
mutual
def evS : Stm → Env → Store → SRes
  | .set i o e, ρ, st => (evE G cf e ρ st).toS fun d st1 => nxO (setO ρ i o d) st1
  | .setT t e, ρ, st => (evE G cf e ρ st).toS fun d st1 => nxO (bindT t d ρ) st1
  | .par is os es, ρ, st => match evEs G cf es ρ st with
    | .ok ds st1 => nxO (setOs ρ is os ds) st1
    | .raise x st1 => .raise x st1
    | .stuck => .stuck
  | .setLam i k, ρ, st => if i < ρ.length then .nx (ρ.set i (.lam k)) st else .stuck
  | .append i e, ρ, st => match ρ[i]? with
    | some (.own (.lst xs)) => (evE G cf e ρ st).toS fun d st1 => if fits (d :: xs) then .nx (ρ.set i (.own (.lst (xs ++ [d])))) st1 else .stuck
    | _ => .stuck
  | .pop j i, ρ, st => match ρ[i]? with
    | some (.own (.lst xs)) => (match xs.getLast? with
      | some d => if i ≠ j && decide (j < ρ.length) then .nx ((ρ.set i (.own (.lst xs.dropLast))).set j (.val d)) st else .stuck
      | none => .stuck)
    | _ => .stuck
  | .setIdx i k v, ρ, st => (evE G cf v ρ st).toS fun y st1 => if putOk ρ i then (evE G cf k ρ st1).toS fun x st2 => putD ρ i x y st2 else .stuck
  | .freeze i, ρ, st => match ρ[i]? with
    | some (.own d) => .nx (ρ.set i (.val d)) st
    | _ => .stuck
  | .expr e, ρ, st => (evE G cf e ρ st).toS fun _ st1 => .nx ρ st1
  | .ret e, ρ, st => (evE G cf e ρ st).toS fun d st1 => .ret d st1
  | .ite c a b, ρ, st => (evE G cf c ρ st).toS fun x st1 => match truth x with
    | some true => evB a ρ st1
    | some false => evB b ρ st1
    | none => .stuck
  | .while c b, ρ, st => whileL (fun ρ' st' => (evE G cf c ρ' st').bind fun x st1 => lift (truth x) st1) (fun ρ' st' => evB b ρ' st') wf ρ st
  | .for t it b, ρ, st => match evIt G cf it ρ st with
    | .ok xs st1 => forL t (fun ρ' st' => evB b ρ' st') xs ρ st1
    | .raise x st1 => .raise x st1
    | .stuck => .stuck
  | .brk, ρ, st => .brk ρ st
  | .cnt, ρ, st => .cnt ρ st
  | .pass, ρ, st => .nx ρ st
  | .raise x, _, st => .raise ⟨x, none⟩ st
  | .raiseP x e, ρ, st => (evE G cf e ρ st).toS fun d st1 => .raise ⟨x, some d⟩ st1
def evB : List Stm → Env → Store → SRes
  | [], ρ, st => .nx ρ st
  | s :: ss, ρ, st => match evS s ρ st with
    | .nx ρ1 st1 => evB ss ρ1 st1
    | r => r
end
end
/-- what a def's body ends with -/
def SRes.fin : SRes → Res D
  | .nx _ st => .ok .non st
  | .ret d st => .ok d st
  | .raise x st => .raise x st
  | _ => .stuck
/-- the word for what came well -/
def toldS : List Nat := [116, 111, 108, 100]
/-- calls, at most n deep; tryP: a function is called, what it told or what its error is named -/
def callN (P : Prg) (wf : Nat) : Nat → CallF
  | 0 => fun _ _ _ => .stuck
  | n + 1 => fun f as st => match P.defs[f]? with
    | some d => if as.length = d.np then (match d.body with
      | .stmts b => (evB P.globs (callN P wf n) wf b (as ++ List.replicate (d.ns - d.np) .non) st).fin
      | .expr e => evE P.globs (callN P wf n) e as st
      | .tryP tab => (match as with
        | [.clo k cap] => (match callN P wf n k (cap.map Sl.val) st with
          | .ok d st1 => .ok (.tup [.str toldS, d]) st1
          | .raise x st1 => (match x.pay, tab[x.cls]? with
            | none, some t => .ok (.str t) st1
            | _, _ => .stuck)
          | .stuck => .stuck)
        | _ => .stuck)) else .stuck
    | none => .stuck
end Mini
end
section
set_option maxRecDepth 100000
set_option maxHeartbeats 4000000
/-! Snd1: plain data and the heap: what stands for what. -/
namespace Snd
open PySem PySem.Spec PyProof.Rows L2
open Mini (D Sl Xc Res SRes Ex Ar Itr Stm Tgt)

abbrev Frag := PySem.W.Frag
/-- a text -/
def sS (s : List Nat) : Str := ⟨s.toArray⟩

/-- a lambda of the text -/
structure LamI where
  qual : Str
  params : Arguments
  body : Expr
  scope : Scope
  ps : List Str
  cap : List Str

/-- what the whole proof leans on -/
structure Gx where
  P : Program
  w : World
  K : Frag
  mg : Str → Option Value
  base : Heap
  fa : Nat → Addr
  lamOk : Nat → LamI → Prop
  T : List (Addr × Str)
  fnp : Str → Nat → Nat → Prop
  prog : Mini.Prg
  wf : Nat

/-! ### dicts whose keys are tuples -/
abbrev DX := List (NestedKey × Addr × Value)
def nkind (P : Program) (w : World) := nestedKind P w
/-- the object of the dict at a -/
def dicO (P : Program) (w : World) (a : Addr) (xs : DX) : HO := .ext fun h => (a == sysModules) = false ∧ ∃ o es ep, h.get? a = some o ∧ o.ExactDict ∧ o.data = .dict es ep ∧ es.toList = xs.map (entryOfKey (nkind P w)) ∧ (xs.map (·.1)).Nodup ∧ xs.length ≤ sizeLine
mutual
def nk : D → NestedKey
  | .non => .none
  | .int i => .num i
  | .str s => .text (sS s)
  | .tup ds => .tup (nks ds)
  | _ => .none
def nks : List D → List NestedKey
  | [] => []
  | d :: ds => nk d :: nks ds
end

section
variable (K : Frag)
/-- a list of the written part -/
def KL (a : Addr) (xs : List V) : Prop := ∃ (o : Obj) (its : Array Value) (n : Nat), K.lookup a = some o ∧ o.cls = .type "list" ∧ o.dict = none ∧ o.data = .seq its n ∧ its.size ≤ sizeLine ∧ Vals xs its.toList
def KT (a : Addr) (xs : List V) : Prop := ∃ (o : Obj) (its : Array Value) (n : Nat), K.lookup a = some o ∧ o.cls = .type "tuple" ∧ o.data = .seq its n ∧ its.size ≤ sizeLine ∧ Vals xs its.toList
/-- a list, a tuple that stands still -/
def SqLs (W : Addr → Prop) (H : Hp) (a : Addr) (vs : List V) : Prop := (Rd H a (.lst vs) ∧ ¬ W a) ∨ KL K a vs
def SqTs (W : Addr → Prop) (H : Hp) (a : Addr) (vs : List V) : Prop := (Rd H a (.tup vs) ∧ ¬ W a) ∨ KT K a vs
theorem SqLs.q {K : Frag} {W : Addr → Prop} {H : Hp} {a : Addr} {vs : List V} (h : SqLs K W H a vs) : SqL K H a vs := by
  rcases h with ⟨h, _⟩ | h
  · exact .inl h
  · exact .inr h
theorem SqTs.q {K : Frag} {W : Addr → Prop} {H : Hp} {a : Addr} {vs : List V} (h : SqTs K W H a vs) : SqT K H a vs := by
  rcases h with ⟨h, _⟩ | h
  · exact .inl h
  · exact .inr h
end

/-! ### a value of Mini in the heap -/
section
variable (G : Gx)
mutual
/-- the value d is told by v: ι the cells, W what may be written -/
inductive Rp (ι : List Addr) (W : Addr → Prop) (H : Hp) : D → V → Prop
  | non : Rp ι W H .non .non
  | bl (b : Bool) : Rp ι W H (.bl b) (.bl b)
  | int (i : Int) : Rp ι W H (.int i) (.int i)
  | str (s : List Nat) : (∀ c ∈ s, c < 1114112) → s.length ≤ sizeLine → Rp ι W H (.str s) (.str (sS s))
  | tup {a : Addr} {vs : List V} {ds : List D} : SqTs G.K W H a vs → Rps ι W H ds vs → Rp ι W H (.tup ds) (.ref a)
  | lst {a : Addr} {vs : List V} {ds : List D} : SqLs G.K W H a vs → Rps ι W H ds vs → Rp ι W H (.lst ds) (.ref a)
  | dic {a : Addr} {ks vs : List D} {wv : List V} {xs : DX} : H a = some (dicO G.P G.w a xs) → ¬ W a → Rps ι W H ks (xs.map fun x => V.ref x.2.1) → xs.map (·.1) = nks ks → (∀ k ∈ ks, Mini.keyT k = true) →
      Vals wv (xs.map (·.2.2)) → Rps ι W H vs wv → Rp ι W H (.dic ks vs) (.ref a)
  | cell {n : Nat} {a : Addr} : ι[n]? = some a → Rp ι W H (.cell n) (.ref a)
  | fn {s : Str} {k np : Nat} : G.fnp s k np → Rp ι W H (.fn k) (.ref (G.fa k))
inductive Rps (ι : List Addr) (W : Addr → Prop) (H : Hp) : List D → List V → Prop
  | nil : Rps ι W H [] []
  | cons {d : D} {v : V} {ds : List D} {vs : List V} : Rp ι W H d v → Rps ι W H ds vs → Rps ι W H (d :: ds) (v :: vs)
end
end

/-- a step: what may not be written stays; only new things may be written from then on -/
structure Stp (ι : List Addr) (W : Addr → Prop) (H : Hp) (ι' : List Addr) (W' : Addr → Prop) (H' : Hp) : Prop where
  pre : ∃ l, ι' = ι ++ l
  keep : ∀ a o, H a = some o → ¬ W a → (∀ ps, o ≠ .tbl ps) → H' a = some o
  wnew : ∀ a, W' a → W a ∨ H a = none
  there : ∀ a, H a ≠ none → H' a ≠ none
section
variable {G : Gx} {ι ι' ι2 : List Addr} {W W' W2 : Addr → Prop} {H H' H2 : Hp}
theorem Stp.refl : Stp ι W H ι W H := ⟨⟨[], by simp⟩, fun _ _ h _ _ => h, fun _ h => .inl h, fun _ h => h⟩
theorem Stp.rd (s : Stp ι W H ι' W' H') {a : Addr} {o : HO} (h : Rd H a o) (nw : ¬ W a) (nt : ∀ ps, o ≠ .tbl ps) : Rd H' a o ∧ ¬ W' a := by
  have hne : H a ≠ none := by
    rcases h with h | ⟨u, h⟩ <;> rw [h] <;> simp
  refine ⟨?_, fun z => (s.wnew a z).elim nw hne⟩
  rcases h with h | ⟨u, h⟩
  · exact .inl (s.keep a _ h nw nt)
  · exact .inr ⟨u, s.keep a _ h nw (fun ps z => by cases z)⟩
theorem Stp.trans (s : Stp ι W H ι' W' H') (t : Stp ι' W' H' ι2 W2 H2) : Stp ι W H ι2 W2 H2 := by
  obtain ⟨l, e⟩ := s.pre
  obtain ⟨l2, e2⟩ := t.pre
  refine ⟨⟨l ++ l2, by rw [e2, e, List.append_assoc]⟩, fun a o h nw nt => ?_, fun a z => ?_, fun a z => t.there a (s.there a z)⟩
  · refine t.keep a o (s.keep a o h nw nt) (fun z => ?_) nt
    exact (s.wnew a z).elim nw (by rw [h]; simp)
  · rcases t.wnew a z with z | z
    · exact s.wnew a z
    · cases q : H a with
      | none => exact .inr rfl
      | some o => exact absurd z (s.there a (by rw [q]; simp))
theorem SqLs.mono {K : Frag} {a : Addr} {vs : List V} (s : Stp ι W H ι' W' H') (h : SqLs K W H a vs) : SqLs K W' H' a vs := by
  rcases h with ⟨h, nw⟩ | h
  · exact .inl (s.rd h nw fun _ z => by cases z)
  · exact .inr h
theorem SqTs.mono {K : Frag} {a : Addr} {vs : List V} (s : Stp ι W H ι' W' H') (h : SqTs K W H a vs) : SqTs K W' H' a vs := by
  rcases h with ⟨h, nw⟩ | h
  · exact .inl (s.rd h nw fun _ z => by cases z)
  · exact .inr h
theorem dicO_ne {P : Program} {w : World} {a : Addr} {xs : DX} (ps : Array Value) : dicO P w a xs ≠ .tbl ps := fun z => by
  unfold dicO at z
  cases z
mutual
theorem Rp.mono (s : Stp ι W H ι' W' H') : ∀ (d : D) (v : V), Rp G ι W H d v → Rp G ι' W' H' d v
  | .non, _, h => by cases h; exact .non
  | .bl b, _, h => by cases h; exact .bl b
  | .int i, _, h => by cases h; exact .int i
  | .str x, _, h => by cases h with | str _ h1 h2 => exact .str x h1 h2
  | .tup ds, _, h => by cases h with | tup h1 h2 => exact .tup (h1.mono s) (Rps.mono s ds _ h2)
  | .lst ds, _, h => by cases h with | lst h1 h2 => exact .lst (h1.mono s) (Rps.mono s ds _ h2)
  | .dic ks vs, _, h => by
    cases h with
    | dic h1 h2 h3 h4 h5 h6 h7 =>
      exact .dic (s.keep _ _ h1 h2 dicO_ne) (fun z => (s.wnew _ z).elim h2 (by rw [h1]; simp)) (Rps.mono s ks _ h3) h4 h5 h6 (Rps.mono s vs _ h7)
  | .cell n, _, h => by
    cases h with
    | cell h =>
      obtain ⟨l, e⟩ := s.pre
      refine .cell ?_
      rw [e, List.getElem?_append_left (List.getElem?_eq_some_iff.mp h).1]
      exact h
  | .fn k, _, h => by cases h with | fn h => exact .fn h
theorem Rps.mono (s : Stp ι W H ι' W' H') : ∀ (d : List D) (v : List V), Rps G ι W H d v → Rps G ι' W' H' d v
  | [], _, h => by cases h; exact .nil
  | d :: ds, _, h => by cases h with | cons h1 h2 => exact .cons (Rp.mono s d _ h1) (Rps.mono s ds _ h2)
end
theorem Rps.length : ∀ {ds : List D} {vs : List V}, Rps G ι W H ds vs → ds.length = vs.length
  | [], _, h => by cases h; rfl
  | d :: ds, _, h => by cases h with | cons h1 h2 => simp [Rps.length h2]
theorem Rps.get : ∀ {ds : List D} {vs : List V} {i : Nat} {d : D}, Rps G ι W H ds vs → ds[i]? = some d → ∃ v, vs[i]? = some v ∧ Rp G ι W H d v
  | [], _, i, _, _, e => by simp at e
  | d :: ds, _, 0, _, h, e => by cases h with | cons h1 h2 => simp at e; subst e; exact ⟨_, rfl, h1⟩
  | d :: ds, _, i + 1, _, h, e => by
    cases h with
    | cons h1 h2 =>
      obtain ⟨v, q, r⟩ := Rps.get (i := i) h2 (by simpa using e)
      exact ⟨v, by simpa using q, r⟩
theorem Rps.getV : ∀ {ds : List D} {vs : List V} {i : Nat} {v : V}, Rps G ι W H ds vs → vs[i]? = some v → ∃ d, ds[i]? = some d ∧ Rp G ι W H d v := fun {ds vs i v} h e => by
  have hi : i < ds.length := by rw [h.length]; exact (List.getElem?_eq_some_iff.mp e).1
  obtain ⟨v', q, r⟩ := h.get (d := ds[i]) (List.getElem?_eq_getElem hi)
  rw [e] at q
  cases q
  exact ⟨_, List.getElem?_eq_getElem hi, r⟩
theorem Rps.app : ∀ {as bs : List D} {us vs : List V}, Rps G ι W H as us → Rps G ι W H bs vs → Rps G ι W H (as ++ bs) (us ++ vs)
  | [], _, _, _, h, k => by cases h; exact k
  | a :: as, _, _, _, h, k => by cases h with | cons h1 h2 => exact .cons h1 (Rps.app h2 k)
theorem Rps.take : ∀ {as : List D} {us : List V} (n : Nat), Rps G ι W H as us → Rps G ι W H (as.take n) (us.take n)
  | _, _, 0, _ => by simpa using .nil
  | [], _, n + 1, h => by cases h; simpa using .nil
  | a :: as, _, n + 1, h => by cases h with | cons h1 h2 => simpa using .cons h1 (Rps.take n h2)
theorem Rps.drop : ∀ {as : List D} {us : List V} (n : Nat), Rps G ι W H as us → Rps G ι W H (as.drop n) (us.drop n)
  | _, _, 0, h => by simpa using h
  | [], _, n + 1, h => by cases h; simpa using .nil
  | a :: as, _, n + 1, h => by cases h with | cons h1 h2 => simpa using Rps.drop n h2
theorem Rps.set : ∀ {as : List D} {us : List V} (n : Nat) {d : D} {v : V}, Rps G ι W H as us → Rp G ι W H d v → Rps G ι W H (as.set n d) (us.set n v)
  | [], _, n, _, _, h, k => by cases h; simpa using .nil
  | a :: as, _, 0, _, _, h, k => by cases h with | cons h1 h2 => simpa using .cons k h2
  | a :: as, _, n + 1, _, _, h, k => by cases h with | cons h1 h2 => simpa using .cons h1 (Rps.set n h2 k)
theorem Rps.rev {as : List D} {us : List V} (h : Rps G ι W H as us) : Rps G ι W H as.reverse us.reverse := by
  induction as generalizing us with
  | nil => cases h; simpa using .nil
  | cons a as ih =>
    cases h with
    | cons h1 h2 =>
      simp only [List.reverse_cons]
      exact Rps.app (ih h2) (.cons h1 .nil)
end
end Snd
end
section
set_option maxRecDepth 100000
set_option maxHeartbeats 4000000
/-! Snd2: the state of a frame. -/
namespace Snd
open PySem PySem.Spec PyProof.Rows L2
open Mini (D Sl Xc Res SRes Ex Ar Itr Stm Tgt)

def funO (f : Addr) (L : LamI) (cells : List (Str × Addr)) (pm : Value) (c' : Addr) (ctv : Value) : HO :=
  .ext fun h => h.get? f = some (PySem.W.kla_obj "<lambda>" L.qual L.params L.body L.scope cells pm c' ctv)
def celO (c : Addr) (u : Value) : HO := .ext fun h => h.IsCell c (some u)

/-- the cells hold, of these names, these values -/
abbrev CloP := List (Str × Addr) → List Str → List V → Prop
/-- a frame: what was there at its entry -/
structure FCx where
  H0 : Hp
  ι0 : List Addr
  Z0 : Addr → Prop
  EE : XK
  cells : List (Str × Addr)
  hid : Addr → Prop
  clo : CloP
  N : List Str
  names : List (Str × NameKind)

section
variable (G : Gx)
/-- what an own list or dict holds -/
def OwnR (ι : List Addr) (W : Addr → Prop) (H : Hp) : D → Addr → Prop
  | .lst ds, a => ∃ vs, H a = some (.lst vs) ∧ Rps G ι W H ds vs
  | .dic ks vs, a => ∃ wv xs, H a = some (dicO G.P G.w a xs) ∧ Rps G ι W H ks (xs.map fun x => V.ref x.2.1) ∧ xs.map (·.1) = nks ks ∧ (∀ k ∈ ks, Mini.keyT k = true) ∧ Vals wv (xs.map (·.2.2)) ∧ Rps G ι W H vs wv
  | _, _ => False
/-- a closure: the function object at f, its cells -/
def CloR (clo : CloP) (ι : List Addr) (W : Addr → Prop) (H : Hp) (k : Nat) (cap : List D) (f : Addr) : Prop :=
  ∃ L cells pm c' ctv ws, G.lamOk k L ∧ H f = some (funO f L cells pm c' ctv) ∧ ¬ W f ∧ H c' = some (LamX.CodeO c' L.qual) ∧ ¬ W c' ∧ clo cells L.cap ws ∧ Rps G ι W H cap ws
/-- a function object made in this frame, from the frame's own cells -/
def LamR (cells : List (Str × Addr)) (W : Addr → Prop) (H : Hp) (L : LamI) (f : Addr) : Prop :=
  ∃ pm c' ctv, H f = some (funO f L (cloFrom cells L.scope.names []) pm c' ctv) ∧ ¬ W f ∧ H c' = some (LamX.CodeO c' L.qual) ∧ ¬ W c'
def SlotR (cells : List (Str × Addr)) (clo : CloP) (ι : List Addr) (W : Addr → Prop) (H : Hp) : Sl → Option (Option V) → Prop
  | .non, _ => True
  | .val d, x => ∃ v, x = some (some v) ∧ Rp G ι W H d v
  | .own d, x => ∃ a, x = some (some (.ref a)) ∧ OwnR G ι W H d a
  | .clo k cap, x => ∃ f, x = some (some (.ref f)) ∧ CloR G clo ι W H k cap f
  | .lam k, x => ∃ f L, x = some (some (.ref f)) ∧ G.lamOk k L ∧ LamR cells W H L f
/-- the own lists' places -/
def OwnAt (ρ : Mini.Env) (σ : L2.St) (a : Addr) : Prop := ∃ (i : Nat) (d : D), ρ[i]? = some (Sl.own d) ∧ σ[i]? = some (some (V.ref a))
/-- what may be written -/
def Wr (C : FCx) (ι : List Addr) (ρ : Mini.Env) (σ : L2.St) : Addr → Prop := fun a => a ∈ ι ∨ C.Z0 a ∨ OwnAt ρ σ a ∨ C.hid a
/-- the cells' lists -/
structure StoR (ι : List Addr) (W : Addr → Prop) (H : Hp) (st : Mini.Store) : Prop where
  len : ι.length = st.length
  nd : ι.Nodup
  fl : ∀ (n : Nat) (ds : List D), st[n]? = some ds → (Mini.intL ds).isSome = true
  at_ : ∀ (n : Nat) (ds : List D), st[n]? = some ds → ∃ a vs, ι[n]? = some a ∧ H a = some (.lst vs) ∧ Rps G ι W H ds vs
/-- a list, a dict -/
def Deck (a : Addr) (o : HO) : Prop := (∃ vs, o = .lst vs) ∨ ∃ xs, o = dicO G.P G.w a xs
/-- since the frame's entry -/
structure Snc (C : FCx) (ι : List Addr) (H : Hp) : Prop where
  pre : ∃ l, ι = C.ι0 ++ l
  keep : ∀ a o, C.H0 a = some o → a ∉ C.ι0 → (∀ ps, o ≠ .tbl ps) → H a = some o
  new : ∀ a, a ∈ ι → a ∉ C.ι0 → C.H0 a = none
  there : ∀ a, C.H0 a ≠ none → H a ≠ none
  z : ∀ a, C.Z0 a → (∃ o, C.H0 a = some o ∧ Deck G a o) ∧ a ∉ C.ι0
  tabs : LamX.Tabs G.T H
structure Rl (C : FCx) (ρ : Mini.Env) (st : Mini.Store) (ι : List Addr) (σ : L2.St) (H : Hp) : Prop where
  snc : Snc G C ι H
  len : σ.length = ρ.length
  sto : StoR G ι (Wr C ι ρ σ) H st
  slot : ∀ (i : Nat) (s : Sl), ρ[i]? = some s → SlotR G C.cells C.clo ι (Wr C ι ρ σ) H s (σ[i]?)
  ownO : ∀ (i : Nat) (d : D) (a : Addr), ρ[i]? = some (Sl.own d) → σ[i]? = some (some (V.ref a)) → a ∉ ι ∧ ¬ C.Z0 a ∧ C.H0 a = none
  ownI : ∀ (i j : Nat) (d e : D) (a : Addr), ρ[i]? = some (Sl.own d) → σ[i]? = some (some (V.ref a)) → ρ[j]? = some (Sl.own e) → σ[j]? = some (some (V.ref a)) → i = j
  hidO : ∀ a, C.hid a → (∃ o, H a = some o ∧ Deck G a o) ∧ a ∉ ι ∧ C.H0 a = none
end

section
variable {G : Gx} {C : FCx} {ι ι' : List Addr} {W W' : Addr → Prop} {H H' : Hp} {ρ ρ' : Mini.Env} {st st' : Mini.Store} {σ σ' : L2.St}
theorem Deck.nt {a : Addr} {o : HO} (h : Deck G a o) (ps : Array Value) : o ≠ .tbl ps := by
  rcases h with ⟨vs, rfl⟩ | ⟨xs, rfl⟩
  · intro z; cases z
  · exact dicO_ne ps
theorem funO_ne {f : Addr} {L : LamI} {cells : List (Str × Addr)} {pm : Value} {c' : Addr} {ctv : Value} (ps : Array Value) : funO f L cells pm c' ctv ≠ .tbl ps := fun z => by unfold funO at z; cases z
theorem celO_ne {c : Addr} {u : Value} (ps : Array Value) : celO c u ≠ .tbl ps := fun z => by unfold celO at z; cases z
theorem Stp.at_ (s : Stp ι W H ι' W' H') {a : Addr} {o : HO} (h : H a = some o) (nw : ¬ W a) (nt : ∀ ps, o ≠ .tbl ps) : H' a = some o ∧ ¬ W' a :=
  ⟨s.keep a o h nw nt, fun z => (s.wnew a z).elim nw (by rw [h]; simp)⟩
theorem CloR.mono {clo : CloP} (s : Stp ι W H ι' W' H') {k : Nat} {cap : List D} {f : Addr} (h : CloR G clo ι W H k cap f) : CloR G clo ι' W' H' k cap f := by
  obtain ⟨L, cells, pm, c', ctv, ws, h0, h1, h2, h3, h4, h5, h6⟩ := h
  obtain ⟨a1, a2⟩ := s.at_ h1 h2 funO_ne
  obtain ⟨b1, b2⟩ := s.at_ h3 h4 LamX.codeO_ne
  exact ⟨L, cells, pm, c', ctv, ws, h0, a1, a2, b1, b2, h5, Rps.mono s _ _ h6⟩
theorem LamR.mono (s : Stp ι W H ι' W' H') {cells : List (Str × Addr)} {L : LamI} {f : Addr} (h : LamR cells W H L f) : LamR cells W' H' L f := by
  obtain ⟨pm, c', ctv, h1, h2, h3, h4⟩ := h
  obtain ⟨a1, a2⟩ := s.at_ h1 h2 funO_ne
  obtain ⟨b1, b2⟩ := s.at_ h3 h4 LamX.codeO_ne
  exact ⟨pm, c', ctv, a1, a2, b1, b2⟩
theorem OwnR.mono (s : Stp ι W H ι' W' H') {d : D} {a : Addr} (h : OwnR G ι W H d a) (k : ∀ o, H a = some o → H' a = some o) : OwnR G ι' W' H' d a := by
  cases d with
  | lst ds =>
    obtain ⟨vs, h1, h2⟩ := h
    exact ⟨vs, k _ h1, Rps.mono s ds vs h2⟩
  | dic ks vs =>
    obtain ⟨wv, xs, h1, h2, h3, h4, h5, h6⟩ := h
    exact ⟨wv, xs, k _ h1, Rps.mono s ks _ h2, h3, h4, h5, Rps.mono s vs wv h6⟩
  | _ => exact h.elim
theorem OwnR.there {d : D} {a : Addr} (h : OwnR G ι W H d a) : ∃ o, H a = some o ∧ Deck G a o := by
  cases d with
  | lst ds =>
    obtain ⟨vs, h1, h2⟩ := h
    exact ⟨_, h1, .inl ⟨_, rfl⟩⟩
  | dic ks vs =>
    obtain ⟨wv, xs, h1, h2, h3, h4, h5, h6⟩ := h
    exact ⟨_, h1, .inr ⟨_, rfl⟩⟩
  | _ => exact h.elim
theorem SlotR.mono (s : Stp ι W H ι' W' H') {cells : List (Str × Addr)} {clo : CloP} {t : Sl} {x : Option (Option V)} (h : SlotR G cells clo ι W H t x) (k : ∀ d a, t = .own d → x = some (some (.ref a)) → ∀ o, H a = some o → H' a = some o) : SlotR G cells clo ι' W' H' t x := by
  cases t with
  | non => trivial
  | val d =>
    obtain ⟨v, e, h⟩ := h
    exact ⟨v, e, Rp.mono s d v h⟩
  | own d =>
    obtain ⟨a, e, h⟩ := h
    exact ⟨a, e, h.mono s (k d a rfl e)⟩
  | clo j cap =>
    obtain ⟨f, e, h⟩ := h
    exact ⟨f, e, h.mono s⟩
  | lam j =>
    obtain ⟨f, L, e, l, h⟩ := h
    exact ⟨f, L, e, l, h.mono s⟩
theorem StoR.there (h : StoR G ι W H st) {a : Addr} (m : a ∈ ι) : ∃ vs, H a = some (.lst vs) := by
  obtain ⟨n, hn⟩ := List.mem_iff_getElem?.mp m
  have hl : n < st.length := by rw [← h.len]; exact (List.getElem?_eq_some_iff.mp hn).1
  obtain ⟨b, vs, e, e2, _⟩ := h.at_ n st[n] (List.getElem?_eq_getElem hl)
  rw [hn] at e
  cases e
  exact ⟨vs, e2⟩
theorem Rl.own_there (R : Rl G C ρ st ι σ H) {a : Addr} (h : OwnAt ρ σ a) : ∃ o, H a = some o ∧ Deck G a o := by
  obtain ⟨i, d, h1, h2⟩ := h
  obtain ⟨b, e, q⟩ := R.slot i _ h1
  rw [h2] at e
  cases e
  exact q.there
theorem Rl.zt (R : Rl G C ρ st ι σ H) {a : Addr} (h : C.Z0 a) : ∃ o, H a = some o ∧ Deck G a o := by
  obtain ⟨⟨o, e, nt⟩, n⟩ := R.snc.z a h
  exact ⟨o, R.snc.keep a o e n nt.nt, nt⟩
theorem Rl.w_there (R : Rl G C ρ st ι σ H) {a : Addr} (h : Wr C ι ρ σ a) : H a ≠ none := by
  rcases h with h | h | h | h
  · obtain ⟨vs, e⟩ := R.sto.there h
    rw [e]; simp
  · rw [(R.zt h).choose_spec.1]; simp
  · obtain ⟨o, e, _⟩ := R.own_there h
    rw [e]; simp
  · obtain ⟨⟨o, e, _⟩, _⟩ := R.hidO a h
    rw [e]; simp
/-- what an expression, a call does: it writes at cells alone -/
structure StpE (ι : List Addr) (H : Hp) (ι' : List Addr) (H' : Hp) : Prop where
  pre : ∃ l, ι' = ι ++ l
  keep : ∀ a o, H a = some o → a ∉ ι → (∀ ps, o ≠ .tbl ps) → H' a = some o
  inew : ∀ a, a ∈ ι' → a ∈ ι ∨ H a = none
  there : ∀ a, H a ≠ none → H' a ≠ none
theorem StpE.refl : StpE ι H ι H := ⟨⟨[], by simp⟩, fun _ _ h _ _ => h, fun _ h => .inl h, fun _ h => h⟩
theorem StpE.stp (s : StpE ι H ι' H') : Stp ι (Wr C ι ρ σ) H ι' (Wr C ι' ρ σ) H' :=
  ⟨s.pre, fun a o h n nt => s.keep a o h (fun z => n (.inl z)) nt, fun a z => by
    rcases z with z | z
    · exact (s.inew a z).elim (fun q => .inl (.inl q)) .inr
    · exact .inl (.inr z), s.there⟩
theorem StpE.trans {ι2 : List Addr} {H2 : Hp} (s : StpE ι H ι' H') (t : StpE ι' H' ι2 H2) : StpE ι H ι2 H2 := by
  obtain ⟨l, e⟩ := s.pre
  obtain ⟨l2, e2⟩ := t.pre
  have back : ∀ a, H' a = none → H a = none := fun a z => by
    cases q : H a with
    | none => rfl
    | some o => exact absurd z (s.there a (by rw [q]; simp))
  refine ⟨⟨l ++ l2, by rw [e2, e, List.append_assoc]⟩, fun a o h n nt => t.keep a o (s.keep a o h n nt) (fun z => ?_) nt, fun a z => ?_, fun a z => t.there a (s.there a z)⟩
  · exact (s.inew a z).elim n (by rw [h]; simp)
  · rcases t.inew a z with z | z
    · exact s.inew a z
    · exact .inr (back a z)
/-- new things, and the tables -/
theorem Rl.grow (R : Rl G C ρ st ι σ H) (k : LamX.ExtN H H') (t : LamX.Tabs G.T H') (th : ∀ a, H a ≠ none → H' a ≠ none) : Rl G C ρ st ι σ H' ∧ StpE ι H ι H' := by
  have se : StpE ι H ι H' := ⟨⟨[], by simp⟩, fun a o h _ nt => k a o h nt, fun a z => .inl z, th⟩
  have s : Stp ι (Wr C ι ρ σ) H ι (Wr C ι ρ σ) H' := ⟨⟨[], by simp⟩, fun a o h _ nt => k a o h nt, fun a z => .inl z, th⟩
  refine ⟨⟨⟨R.snc.pre, fun a o h n nt => k a o (R.snc.keep a o h n nt) nt, R.snc.new, fun a z => th a (R.snc.there a z), R.snc.z, t⟩, R.len, ⟨R.sto.len, R.sto.nd, R.sto.fl, fun n ds e => ?_⟩, fun i x e => (R.slot i x e).mono s fun d a e1 e2 o h => ?_, R.ownO, R.ownI, fun a ha => ?_⟩, se⟩
  · obtain ⟨a, vs, e1, e2, e3⟩ := R.sto.at_ n ds e
    exact ⟨a, vs, e1, k a _ e2 (fun _ z => by cases z), Rps.mono s ds vs e3⟩
  · subst e1
    obtain ⟨o', h', nt⟩ := R.own_there ⟨i, d, e, e2⟩
    rw [h] at h'
    cases h'
    exact k a o h nt.nt
  · obtain ⟨⟨o, e, nt⟩, r⟩ := R.hidO a ha
    exact ⟨⟨o, k a o e nt.nt, nt⟩, r⟩
theorem Rl.fresh (R : Rl G C ρ st ι σ H) {p : Addr} (h : H p = none) : ¬ Wr C ι ρ σ p := fun z => R.w_there z h
/-- one new thing -/
theorem Rl.new (R : Rl G C ρ st ι σ H) {p : Addr} {o : HO} (h : H p = none) : Rl G C ρ st ι σ (upd H p o) ∧ StpE ι H ι (upd H p o) :=
  R.grow (fun a u e _ => by rw [upd_ne (ne_of_none e h)]; exact e) (R.snc.tabs.ext fun a u e => by rw [upd_ne (ne_of_none e h)]; exact e) fun a z => by
    by_cases q : a = p
    · rw [q, upd_same]; simp
    · rw [upd_ne q]; exact z
/-- behind a call -/
theorem Rl.after (R : Rl G C ρ st ι σ H) (s : StpE ι H ι' H') (q : StoR G ι' (Wr C ι' ρ σ) H' st') (t : LamX.Tabs G.T H') : Rl G C ρ st' ι' σ H' := by
  have inn : ∀ a, a ∈ ι → a ∉ C.ι0 → C.H0 a = none := R.snc.new
  obtain ⟨l, e⟩ := R.snc.pre
  obtain ⟨l2, e2⟩ := s.pre
  refine ⟨⟨⟨l ++ l2, by rw [e2, e, List.append_assoc]⟩, fun a o h n nt => s.keep a o (R.snc.keep a o h n nt) (fun z => ?_) nt, fun a z n => ?_, fun a z => s.there a (R.snc.there a z), R.snc.z, t⟩, R.len, q, fun i x e => (R.slot i x e).mono s.stp fun d a e1 e2 o h => ?_, fun i d a e1 e2 => ?_, R.ownI, fun a ha => ?_⟩
  · rw [inn a z n] at h; cases h
  · rcases s.inew a z with z | z
    · exact inn a z n
    · cases h : C.H0 a with
      | none => rfl
      | some o => exact absurd z (R.snc.there a (by rw [h]; simp))
  · subst e1
    obtain ⟨o', h', nt⟩ := R.own_there ⟨i, d, e, e2⟩
    rw [h] at h'
    cases h'
    exact s.keep a o h (R.ownO i d a e e2).1 nt.nt
  · obtain ⟨h1, h2, h3⟩ := R.ownO i d a e1 e2
    refine ⟨fun z => ?_, h2, h3⟩
    obtain ⟨o', h', nt⟩ := R.own_there ⟨i, d, e1, e2⟩
    exact (s.inew a z).elim h1 (by rw [h']; simp)
  · obtain ⟨⟨o, e, nt⟩, n, z⟩ := R.hidO a ha
    exact ⟨⟨o, s.keep a o e n nt.nt, nt⟩, fun m => (s.inew a m).elim n (by rw [e]; simp), z⟩
end
end Snd
end
section
set_option maxRecDepth 100000
set_option maxHeartbeats 4000000
/-! Snd3: what it means that an expression does as Mini says; the operators. -/
namespace Snd
open PySem PySem.Spec PyProof.Rows L2
open Mini (D Sl Xc Res SRes Ex Ar Itr Stm Tgt)

/-- how a value comes: perhaps an own list; a value; a value, and a list just made -/
inductive Kd where
  | weak | strong | fresh
  deriving DecidableEq
def isOwn : D → Prop
  | .lst _ => True
  | .dic _ _ => True
  | _ => False
section
variable (G : Gx)
def RpW (ι : List Addr) (W : Addr → Prop) (H : Hp) (d : D) (v : V) : Prop := Rp G ι W H d v ∨ ∃ a, a ∉ ι ∧ v = .ref a ∧ OwnR G ι W H d a
def ResR (k : Kd) (H : Hp) (ι : List Addr) (W : Addr → Prop) (H' : Hp) (d : D) (v : V) : Prop := match k with
  | .weak => RpW G ι W H' d v
  | .strong => Rp G ι W H' d v
  | .fresh => Rp G ι W H' d v ∧ (isOwn d → ∃ a, v = .ref a ∧ H a = none ∧ ¬ W a ∧ OwnR G ι (fun b => W b ∨ b = a) H' d a)
/-- an error as it flies -/
def ExcR (ex : Nat → Addr) (H : Hp) (x : Xc) (cls : Value) (dx : Option Addr) : Prop :=
  cls = .ref (ex x.cls) ∧ match x.pay with
    | none => dx = none
    | some d => ∃ i a, d = .int i ∧ dx = some a ∧ H a = some (.xd [(PySem.Str.ofString "limit", .int i)])
end
/-- Gx, and where the error classes stand -/
structure Gy extends Gx where
  ex : Nat → Addr
section
variable (G : Gy)
def PostE (C : FCx) (k : Kd) (ρ : Mini.Env) (ι : List Addr) (σ : L2.St) (H : Hp) (r : Res D) (Q : VK) : Prop := match r with
  | .ok d st' => ∀ v ι' H', Rl G.toGx C ρ st' ι' σ H' → StpE ι H ι' H' → ResR G.toGx k H ι' (Wr C ι' ρ σ) H' d v → Q v H'
  | .raise x st' => ∀ cls dx ι' H', Rl G.toGx C ρ st' ι' σ H' → ExcR G.ex H' x cls dx → C.EE cls dx H'
  | .stuck => False
/-- the reading: the evaluator's -/
def tE (C : FCx) (k : Kd) (g : Mini.Env → Mini.Store → Res D) : TE := fun σ H Q => ∃ ρ st ι, Rl G.toGx C ρ st ι σ H ∧ PostE G C k ρ ι σ H (g ρ st) Q
structure XOk (X : Cx) (n : Nat) : Prop where
  p : X.prog = G.P
  w : X.w = G.w
  k : X.K = G.K
  mg : X.mg = G.mg
  base : X.base = G.base
  calm : X.calm = true
  room : Room n X.A
/-- an operation on two values -/
def OpS (X : Cx) (k : Kd) (f : Value → Value → Sem Value) (op : Mini.Store → D → D → Option D) : Prop :=
  ∀ (C : FCx) (pins : List (Addr × Obj)) (s : Shared) (ρ : Mini.Env) (st : Mini.Store) (ι : List Addr) (σ : L2.St) (H : Hp) (x y d : D) (v1 v2 : V) (u1 u2 : Value) (Q : VK),
    Inv X pins σ H s → RelV v1 u1 → RelV v2 u2 → Rl G.toGx C ρ st ι σ H → RpW G.toGx ι (Wr C ι ρ σ) H x v1 → RpW G.toGx ι (Wr C ι ρ σ) H y v2 → op st x y = some d →
    (∀ v H', Rl G.toGx C ρ st ι σ H' → StpE ι H ι H' → ResR G.toGx k H ι (Wr C ι ρ σ) H' d v → Q v H') →
    wpAny (model X.prog X.w) X.A (f u1 u2) (EP X pins σ Q) X.xe s
end

theorem peMono {X : Cx} {e : Expr} {t t' : TE} (h : PE X e t) (k : ∀ σ H Q, t' σ H Q → t σ H Q) : PE X e t' :=
  ⟨fun pins s σ H Q I q => h.run pins s σ H Q I (k σ H Q q)⟩

section
variable {G : Gy} {C : FCx} {X : Cx} {n : Nat} {ι ι' : List Addr} {W W' : Addr → Prop} {H H' : Hp} {ρ : Mini.Env} {st : Mini.Store} {σ : L2.St} {k : Kd}
theorem ResR.weak {d : D} {v : V} (h : ResR G.toGx k H ι W H' d v) : RpW G.toGx ι W H' d v := by
  cases k with
  | weak => exact h
  | strong => exact .inl h
  | fresh => exact .inl h.1
theorem PE.toWeak {e : Expr} {g : Mini.Env → Mini.Store → Res D} (h : PE X e (tE G C k g)) : PE X e (tE G C .weak g) := by
  refine peMono h fun σ H Q ⟨ρ, st, ι, R, q⟩ => ⟨ρ, st, ι, R, ?_⟩
  unfold PostE at q ⊢
  cases e : g ρ st with
  | ok d st' => rw [e] at q; exact fun v ι' H' a b c => q v ι' H' a b c.weak
  | raise x st' => rw [e] at q; exact q
  | stuck => rw [e] at q; exact q
theorem PE.toStrong {e : Expr} {g : Mini.Env → Mini.Store → Res D} (h : PE X e (tE G C .fresh g)) : PE X e (tE G C .strong g) := by
  refine peMono h fun σ H Q ⟨ρ, st, ι, R, q⟩ => ⟨ρ, st, ι, R, ?_⟩
  unfold PostE at q ⊢
  cases e : g ρ st with
  | ok d st' => rw [e] at q; exact fun v ι' H' a b c => q v ι' H' a b c.1
  | raise x st' => rw [e] at q; exact q
  | stuck => rw [e] at q; exact q

/-! ### what a value's kind tells -/
theorem RpW.mono (s : StpE ι H ι' H') {d : D} {v : V} (h : RpW G.toGx ι (Wr C ι ρ σ) H d v) : RpW G.toGx ι' (Wr C ι' ρ σ) H' d v := by
  rcases h with h | ⟨a, na, e, h⟩
  · exact .inl (Rp.mono s.stp d v h)
  · refine .inr ⟨a, fun z => ?_, e, h.mono s.stp fun o q => ?_⟩
    · obtain ⟨o, q, _⟩ := h.there
      exact (s.inew a z).elim na (by rw [q]; simp)
    · obtain ⟨o', q', nt⟩ := h.there
      rw [q] at q'
      cases q'
      exact s.keep a o q na nt.nt
theorem RpW.int {i : Int} {v : V} (h : RpW G.toGx ι W H (.int i) v) : v = .int i := by
  rcases h with h | ⟨a, na, e, h⟩
  · cases h; rfl
  · exact h.elim
theorem RpW.bl {i : Bool} {v : V} (h : RpW G.toGx ι W H (.bl i) v) : v = .bl i := by
  rcases h with h | ⟨a, na, e, h⟩
  · cases h; rfl
  · exact h.elim
theorem RpW.non {v : V} (h : RpW G.toGx ι W H .non v) : v = .non := by
  rcases h with h | ⟨a, na, e, h⟩
  · cases h; rfl
  · exact h.elim
theorem RpW.str {s : List Nat} {v : V} (h : RpW G.toGx ι W H (.str s) v) : v = .str (sS s) ∧ (∀ c ∈ s, c < 1114112) ∧ s.length ≤ sizeLine := by
  rcases h with h | ⟨a, na, e, h⟩
  · cases h with | str _ h1 h2 => exact ⟨rfl, h1, h2⟩
  · exact h.elim
theorem RpW.tup {ds : List D} {v : V} (h : RpW G.toGx ι W H (.tup ds) v) : ∃ a vs, v = .ref a ∧ SqTs G.K W H a vs ∧ Rps G.toGx ι W H ds vs := by
  rcases h with h | ⟨a, na, e, h⟩
  · cases h with | tup h1 h2 => exact ⟨_, _, rfl, h1, h2⟩
  · exact h.elim
theorem RpW.lst {ds : List D} {v : V} (h : RpW G.toGx ι W H (.lst ds) v) : ∃ a vs, v = .ref a ∧ SqL G.K H a vs ∧ Rps G.toGx ι W H ds vs := by
  rcases h with h | ⟨a, na, e, h⟩
  · cases h with | lst h1 h2 => exact ⟨_, _, rfl, h1.q, h2⟩
  · obtain ⟨vs, h1, h2⟩ := h
    exact ⟨a, vs, e, SqL.of h1, h2⟩
theorem sS_length (s : List Nat) : (sS s).length = s.length := by
  show s.toArray.size = _
  simp
theorem sS_cps (s : List Nat) : (sS s).cps.toList = s := by simp [sS]
theorem line_eq : Mini.line = sizeLine := by rw [sizeLine_eq]; rfl
theorem fits_of {α : Type} {xs : List α} (h : Mini.fits xs = true) : xs.length ≤ sizeLine := by
  rw [← line_eq]
  exact of_decide_eq_true h
theorem sS_app (a b : List Nat) : sS a ++ sS b = sS (a ++ b) := by
  show (⟨a.toArray ++ b.toArray⟩ : Str) = ⟨(a ++ b).toArray⟩
  simp

/-! ### things just made -/
theorem Rl.newTup (R : Rl G.toGx C ρ st ι σ H) {p : Addr} {vs : List V} {ds : List D} (h : H p = none) (r : Rps G.toGx ι (Wr C ι ρ σ) H ds vs) :
    Rp G.toGx ι (Wr C ι ρ σ) (upd H p (.tup vs)) (.tup ds) (.ref p) :=
  .tup (.inl ⟨.inl upd_same, R.fresh h⟩) (Rps.mono (R.new h).2.stp _ _ r)
theorem Rl.newLst (R : Rl G.toGx C ρ st ι σ H) {p : Addr} {vs : List V} {ds : List D} (h : H p = none) (r : Rps G.toGx ι (Wr C ι ρ σ) H ds vs) :
    ResR G.toGx .fresh H ι (Wr C ι ρ σ) (upd H p (.lst vs)) (.lst ds) (.ref p) := by
  obtain ⟨R1, S1⟩ := R.new (o := .lst vs) h
  have m := Rps.mono S1.stp _ _ r
  have S2 : Stp ι (Wr C ι ρ σ) H ι (fun b => Wr C ι ρ σ b ∨ b = p) (upd H p (.lst vs)) := ⟨⟨[], by simp⟩, fun a o e n nt => S1.keep a o e (fun z => n (.inl z)) nt, fun a z => z.elim .inl fun z => .inr (by rw [z]; exact h), S1.there⟩
  exact ⟨.lst (.inl ⟨.inl upd_same, R.fresh h⟩) m, fun _ => ⟨p, rfl, h, R.fresh h, vs, upd_same, Rps.mono S2 _ _ r⟩⟩

/-! ### constants and names -/
theorem postOk {C : FCx} {ρ : Mini.Env} {st st' : Mini.Store} {ι : List Addr} {σ : L2.St} {H : Hp} {k : Kd} {d : D} {Q : VK} (q : PostE G C k ρ ι σ H (.ok d st') Q) :
    ∀ v ι' H', Rl G.toGx C ρ st' ι' σ H' → StpE ι H ι' H' → ResR G.toGx k H ι' (Wr C ι' ρ σ) H' d v → Q v H' := q
theorem se_con {d : D} {v : V} {e : Expr} (h : PE X e (tC v)) (r : ∀ ι W H, Rp G.toGx ι W H d v) : PE X e (tE G C .strong fun _ st => .ok d st) :=
  peMono h fun σ H Q ⟨ρ, st, ι, R, q⟩ => q v ι H R StpE.refl (r _ _ _)
theorem se_var {i : Nat} {e : Expr} (h : PE X e (tVar i)) : PE X e (tE G C .strong fun ρ st => Mini.lift (Mini.varD ρ i) st) :=
  peMono h fun σ H Q ⟨ρ, st, ι, R, q⟩ => by
    unfold Mini.varD at q
    dsimp only at q
    cases hs : ρ[i]? with
    | none => rw [hs] at q; exact q.elim
    | some s =>
      rw [hs] at q
      have hr := R.slot i s hs
      cases s with
      | val d =>
        obtain ⟨v, e, r⟩ := hr
        exact ⟨v, e, q v ι H R StpE.refl r⟩
      | _ => exact q.elim
theorem se_peek {i : Nat} {e : Expr} (h : PE X e (tVar i)) : PE X e (tE G C .weak fun ρ st => Mini.lift (Mini.peekD ρ i) st) :=
  peMono h fun σ H Q ⟨ρ, st, ι, R, q⟩ => by
    unfold Mini.peekD at q
    dsimp only at q
    cases hs : ρ[i]? with
    | none => rw [hs] at q; exact q.elim
    | some s =>
      rw [hs] at q
      have hr := R.slot i s hs
      cases s with
      | val d =>
        obtain ⟨v, e, r⟩ := hr
        exact ⟨v, e, q v ι H R StpE.refl (.inl r)⟩
      | own d =>
        obtain ⟨a, e, r⟩ := hr
        exact ⟨_, e, q _ ι H R StpE.refl (.inr ⟨a, (R.ownO i d a hs e).1, rfl, r⟩)⟩
      | _ => exact q.elim
end
end Snd
end
section
/-! MiniInv: what an operation that ends tells of its operands. -/
/-- both are true -/
theorem and_tt {a b : Bool} : ((a && b) = true) = (a = true ∧ b = true) := by cases a <;> cases b <;> simp
namespace Mini
theorem add_inv {x y d : D} (h : binD .add x y = some d) :
    (∃ a b, x = .int a ∧ y = .int b ∧ d = .int (a + b)) ∨ (∃ a b, x = .str a ∧ y = .str b ∧ d = .str (a ++ b) ∧ fits (a ++ b) = true) ∨
    (∃ a b, x = .lst a ∧ y = .lst b ∧ d = .lst (a ++ b) ∧ fits (a ++ b) = true) ∨ (∃ a b, x = .tup a ∧ y = .tup b ∧ d = .tup (a ++ b) ∧ fits (a ++ b) = true) := by
  cases x <;> cases y <;> simp only [binD, reduceCtorEq] at h
  · simp at h; simp [h]
  · unfold mkStr at h
    split at h
    · rename_i q; simp at h; simp [h, q]
    · simp at h
  · unfold mkTup at h
    split at h
    · rename_i q; simp at h; simp [h, q]
    · simp at h
  · unfold mkLst at h
    split at h
    · rename_i q; simp at h; simp [h, q]
    · simp at h
theorem sub_inv {x y d : D} (h : binD .sub x y = some d) : ∃ a b, x = .int a ∧ y = .int b ∧ d = .int (a - b) := by
  cases x <;> cases y <;> simp only [binD, reduceCtorEq] at h
  simp at h; simp [h]
theorem mul_inv {x y d : D} (h : binD .mul x y = some d) :
    (∃ a b, x = .int a ∧ y = .int b ∧ d = .int (a * b) ∧ (smallI a || smallI b) = true) ∨
    (∃ a b, x = .tup a ∧ y = .int b ∧ d = .tup (rep a b.toNat) ∧ 0 ≤ b ∧ b ≤ 1000 ∧ a.length ≤ 1000 ∧ fits (rep a b.toNat) = true) := by
  cases x <;> cases y <;> simp only [binD, reduceCtorEq] at h
  · split at h
    · rename_i q; simp at h; simp [← h]; simpa using q
    · simp at h
  · split at h
    · rename_i q
      unfold mkTup at h
      split at h
      · rename_i q2; simp at h q; simp [h, q2, q]
      · simp at h
    · simp at h
theorem fdiv_inv {x y d : D} (h : binD .fdiv x y = some d) : ∃ a b, x = .int a ∧ y = .int b ∧ d = .int (a / b) ∧ 0 < b ∧ b < 1073741824 := by
  cases x <;> cases y <;> simp only [binD, reduceCtorEq] at h
  split at h
  · rename_i q; simp at h q; simp [h, q]
  · simp at h
theorem mod_inv {x y d : D} (h : binD .mod x y = some d) : ∃ a b, x = .int a ∧ y = .int b ∧ d = .int (a % b) ∧ 0 < b := by
  cases x <;> cases y <;> simp only [binD, reduceCtorEq] at h
  split at h
  · rename_i q; simp at h q; simp [h, q]
  · simp at h
theorem pow_inv {x y d : D} (h : binD .pow x y = some d) : ∃ a b, x = .int a ∧ y = .int b ∧ d = .int (a ^ b.toNat) ∧ 0 ≤ b ∧ b ≤ 1000000 ∧ a.natAbs < 2 ^ 64 := by
  cases x <;> cases y <;> simp only [binD, reduceCtorEq] at h
  split at h
  · rename_i q; simp at h q; exact ⟨_, _, rfl, rfl, h.symm, q.1.1, q.1.2, by simpa using q.2⟩
  · simp at h
theorem ltC_inv {o : COp} {f : Int → Int → Bool} (hf : (o = .lt ∧ f = fun a b => decide (a < b)) ∨ (o = .le ∧ f = fun a b => decide (a ≤ b)) ∨ (o = .gt ∧ f = fun a b => decide (b < a)) ∨ (o = .ge ∧ f = fun a b => decide (b ≤ a)))
    {x y : D} {k : Bool} (h : cmpD o x y = some k) : ∃ a b, x = .int a ∧ y = .int b ∧ k = f a b := by
  rcases hf with ⟨rfl, rfl⟩ | ⟨rfl, rfl⟩ | ⟨rfl, rfl⟩ | ⟨rfl, rfl⟩ <;>
  · cases x <;> cases y <;> simp only [cmpD, reduceCtorEq] at h
    exact ⟨_, _, rfl, rfl, (Option.some.inj h).symm⟩
end Mini
end
section
set_option maxRecDepth 100000
set_option maxHeartbeats 4000000
/-! Snd4: operators, comparisons, displays, argument lists. -/
namespace Snd
open PySem PySem.Spec PyProof.Rows L2
open Mini (D Sl Xc Res SRes Ex Ar Itr Stm Tgt)
section
variable {G : Gy} {C : FCx} {X : Cx} {n : Nat} {ι ι' : List Addr} {W W' : Addr → Prop} {H H' : Hp} {ρ : Mini.Env} {st : Mini.Store} {σ : L2.St} {k : Kd}
abbrev Ev := Mini.Env → Mini.Store → Res D

theorem run1 {k' : Kd} {a : Expr} {ga : Ev} {pins : List (Addr × Obj)} {s : Shared} {Q : VK} {gb : D → Mini.Store → Res D} (ha : PE X a (tE G C k' ga)) (I : Inv X pins σ H s) (R : Rl G.toGx C ρ st ι σ H)
    (q : PostE G C k ρ ι σ H ((ga ρ st).bind gb) Q) {P : Value → Shared → Prop}
    (h : ∀ x st1 v u s1 ι1 H1, ga ρ st = .ok x st1 → Inv X pins σ H1 s1 → RelV v u → Rl G.toGx C ρ st1 ι1 σ H1 → StpE ι H ι1 H1 → ResR G.toGx k' H ι1 (Wr C ι1 ρ σ) H1 x v → PostE G C k ρ ι σ H (gb x st1) Q → P u s1) :
    wpAny (model X.prog X.w) X.A (eval a X.env) P X.xe s := by
  cases e : ga ρ st with
  | stuck => rw [e] at q; exact q.elim
  | raise x st1 =>
    rw [e] at q
    refine thn (ha.run pins s σ H (fun _ _ => False) I ⟨ρ, st, ι, R, ?_⟩) fun u s1 ⟨_, _, _, _, z⟩ => z.elim
    rw [e]; exact q
  | ok x st1 =>
    rw [e] at q
    refine thn (ha.run pins s σ H (fun v H1 => ∃ ι1, Rl G.toGx C ρ st1 ι1 σ H1 ∧ StpE ι H ι1 H1 ∧ ResR G.toGx k' H ι1 (Wr C ι1 ρ σ) H1 x v) I ⟨ρ, st, ι, R, ?_⟩) fun u s1 ⟨v, H1, I1, r1, ι1, R1, S1, w1⟩ => h x st1 v u s1 ι1 H1 e I1 r1 R1 S1 w1 q
    rw [e]
    exact fun v ι1 H1 a b c => ⟨ι1, a, b, c⟩
/-- what is wanted behind a further step -/
theorem PostE.from {r : Res D} {Q : VK} (S1 : StpE ι H ι' H') (q : PostE G C k ρ ι σ H r Q) (hk : k ≠ .weak := by decide) : PostE G C k ρ ι' σ H' r Q := by
  cases r with
  | ok d st' =>
    intro v ι2 H2 R2 S2 w
    refine q v ι2 H2 R2 (S1.trans S2) ?_
    cases k with
    | weak => exact absurd rfl hk
    | strong => exact w
    | fresh =>
      refine ⟨w.1, fun o => ?_⟩
      obtain ⟨a, e, n, nw, ow⟩ := w.2 o
      refine ⟨a, e, ?_, nw, ow⟩
      cases z : H a with
      | none => rfl
      | some u => exact absurd n (S1.there a (by rw [z]; simp))
  | raise x st' => exact fun cls dx ι2 H2 R2 e => q cls dx ι2 H2 R2 e
  | stuck => exact q
theorem two {k1 k2 : Kd} {a b : Expr} {ga gb : Ev} {f : Value → Value → Sem Value} {op : Mini.Store → D → D → Option D} (ho : OpS G X k f op) (ha : PE X a (tE G C k1 ga)) (hb : PE X b (tE G C k2 gb)) (hk : k ≠ .weak)
    {pins : List (Addr × Obj)} {s : Shared} {Q : VK} (I : Inv X pins σ H s)
    (h : tE G C k (fun ρ st => (ga ρ st).bind fun x st1 => (gb ρ st1).bind fun y st2 => Mini.lift (op st2 x y) st2) σ H Q) :
    wpAny (model X.prog X.w) X.A (eval a X.env) (fun v s₁ => wpAny (model X.prog X.w) X.A (eval b X.env) (fun u s₂ => wpAny (model X.prog X.w) X.A (f v u) (EP X pins σ Q) X.xe s₂) X.xe s₁) X.xe s := by
  obtain ⟨ρ, st, ι, R, q⟩ := h
  refine run1 ha I R q fun x st1 v u s1 ι1 H1 e1 I1 r1 R1 S1 w1 q1 => ?_
  refine run1 hb I1 R1 (q1.from S1 hk) fun y st2 v2 u2 s2 ι2 H2 e2 I2 r2 R2 S2 w2 q2 => ?_
  cases eo : op st2 x y with
  | none => rw [eo] at q2; exact q2.elim
  | some d =>
    rw [eo] at q2
    exact ho C pins s2 ρ st2 ι2 σ H2 x y d v v2 u u2 Q I2 r1 r2 R2 (w1.weak.mono S2) w2.weak eo fun v3 H3 R3 S3 w3 => (PostE.from S2 q2 hk) v3 ι2 H3 R3 S3 w3
theorem se_bin {k1 k2 : Kd} {a b : Expr} {ga gb : Ev} {o : Operator} {op : Mini.Store → D → D → Option D} {pos : Pos} (ho : OpS G X k (binaryOp o) op) (hk : k ≠ .weak) (ha : PE X a (tE G C k1 ga)) (hb : PE X b (tE G C k2 gb)) :
    PE X (.BinOp a o b pos) (tE G C k (fun ρ st => (ga ρ st).bind fun x st1 => (gb ρ st1).bind fun y st2 => Mini.lift (op st2 x y) st2)) :=
  ⟨fun pins s σ H Q I h => wpAny_BinOp (two ho ha hb hk I h)⟩
theorem se_cmp {k1 k2 : Kd} {a b : Expr} {ga gb : Ev} {o : CmpOp} {op : Mini.Store → D → D → Option D} {pos : Pos} (ho : OpS G X k (compareOp o) op) (hk : k ≠ .weak) (hm : behindInMarks o b = false) (ha : PE X a (tE G C k1 ga)) (hb : PE X b (tE G C k2 gb)) :
    PE X (.Compare a [o] [b] pos) (tE G C k (fun ρ st => (ga ρ st).bind fun x st1 => (gb ρ st1).bind fun y st2 => Mini.lift (op st2 x y) st2)) :=
  ⟨fun pins s σ H Q I h => wpAny_Compare1 (two ho ha hb hk I h) hm⟩

/-! ### + - * // % ** -/
theorem strV {s : List Nat} (h1 : ∀ c ∈ s, c < 1114112) (h2 : s.length ≤ sizeLine) : ResR G.toGx .fresh H ι W H' (.str s) (.str (sS s)) := ⟨.str s h1 h2, fun z => z.elim⟩
theorem intV {i : Int} : ResR G.toGx .fresh H ι W H' (.int i) (.int i) := ⟨.int i, fun z => z.elim⟩
theorem blV {i : Bool} : ResR G.toGx .strong H ι W H' (.bl i) (.bl i) := .bl i
/-- two lists joined, wherever they stand: the library's list_addW, for lists as they lie -/
theorem op_catL : OpR X (binaryOp .Add) (fun x y H Q => ∃ l b xs zs, x = .ref l ∧ y = .ref b ∧ SqL X.K H l xs ∧ SqL X.K H b zs ∧ xs.length + zs.length ≤ sizeLine ∧ ∀ p, H p = none → Q (.ref p) (upd H p (.lst (xs ++ zs)))) := by
  rintro pins s σ H _ _ _ _ Q I rx ry ⟨l, b, xs, zs, rfl, rfl, hL, hB, hz, q⟩
  cases rx; cases ry
  obtain ⟨us, r1, ⟨o1, n1, g1, c1, d1, e1⟩, _⟩ := I.list hL
  obtain ⟨ws, r2, ⟨o2, n2, g2, c2, d2, e2⟩, _⟩ := I.list hB
  have s1 : o1 = { cls := .type "list", dict := o1.dict, data := .seq us.toArray n1, slots := o1.slots } := by rw [← c1, ← e1]
  have s2 : o2 = { cls := .type "list", dict := o2.dict, data := .seq ws.toArray n2, slots := o2.slots } := by rw [← c2, ← e2]
  have both : us.toArray ++ ws.toArray = (us ++ ws).toArray := List.append_toArray ..
  rw [s1] at g1
  rw [s2] at g2
  have J := I.lnew (t' := s.toks) (r1.append r2) (by rw [List.length_append]; exact hz)
  have meets := list_addW l b us.toArray ws.toArray n1 n2 o1.dict o2.dict o1.slots o2.slots (by rw [List.size_toArray, List.size_toArray, ← r1.length, ← r2.length]; exact hz)
  rw [both] at meets
  exact concat_meets ⟨_, g1, rfl⟩ ⟨_, g2, rfl⟩ noFill_list_add seq_list_add PySem.F.slot_list_add PySem.F.entry_list_add (PySem.F.args_list_add_2 _ _) meets ⟨g1, g2, .ref s.heap.objs.size, _, J, rfl, q _ I.fresh⟩
theorem ops_add (hX : XOk G X n) : OpS G X .fresh (binaryOp .Add) (fun _ => Mini.binD .add) := by
  intro C pins s ρ st ι σ H x y d v1 v2 u1 u2 Q I r1 r2 R w1 w2 e q
  rcases Mini.add_inv e with ⟨a, b, rfl, rfl, rfl⟩ | ⟨a, b, rfl, rfl, rfl, hz⟩ | ⟨a, b, rfl, rfl, rfl, hz⟩ | ⟨a, b, rfl, rfl, rfl, hz⟩
  · rw [w1.int] at r1
    rw [w2.int] at r2
    exact op_add pins s σ H _ _ _ _ Q I r1 r2 ⟨a, b, rfl, rfl, q _ H R StpE.refl intV⟩
  · obtain ⟨e1, c1, z1⟩ := w1.str
    obtain ⟨e2, c2, z2⟩ := w2.str
    rw [e1] at r1
    rw [e2] at r2
    have z := fits_of hz
    rw [List.length_append] at z
    refine op_add_str pins s σ H _ _ _ _ Q I r1 r2 ⟨sS a, sS b, rfl, rfl, by rw [sS_length, sS_length]; exact z, ?_⟩
    rw [sS_app]
    exact q _ H R StpE.refl (strV (fun c hc => (List.mem_append.mp hc).elim (c1 c) (c2 c)) (fits_of hz))
  · obtain ⟨p1, vs1, rfl, q1, m1⟩ := w1.lst
    obtain ⟨p2, vs2, rfl, q2, m2⟩ := w2.lst
    have z := fits_of hz
    rw [List.length_append, m1.length, m2.length] at z
    rw [← hX.k] at q1 q2
    exact op_catL pins s σ H _ _ _ _ Q I r1 r2 ⟨p1, p2, vs1, vs2, rfl, rfl, q1, q2, z, fun p hp => q _ _ (R.new hp).1 (R.new hp).2 (R.newLst hp (m1.app m2))⟩
  · obtain ⟨p1, vs1, rfl, q1, m1⟩ := w1.tup
    obtain ⟨p2, vs2, rfl, q2, m2⟩ := w2.tup
    have z := fits_of hz
    rw [List.length_append, m1.length, m2.length] at z
    have k1 := q1.q
    have k2 := q2.q
    rw [← hX.k] at k1 k2
    refine op_catA pins s σ H _ _ _ _ Q I r1 r2 ⟨p1, p2, vs1, vs2, rfl, rfl, k1, k2, z, fun h0 => ?_, fun h0 h1 => ?_, fun h0 h1 p hp => ?_⟩
    · subst h0
      cases m1
      exact q _ H R StpE.refl ⟨.tup q2 m2, fun z => z.elim⟩
    · subst h1
      cases m2
      refine q _ H R StpE.refl ⟨.tup q1 ?_, fun z => z.elim⟩
      rw [List.append_nil]
      exact m1
    · exact q _ _ (R.new hp).1 (R.new hp).2 ⟨R.newTup hp (m1.app m2), fun z => z.elim⟩
theorem ops_sub : OpS G X .fresh (binaryOp .Sub) (fun _ => Mini.binD .sub) := by
  intro C pins s ρ st ι σ H x y d v1 v2 u1 u2 Q I r1 r2 R w1 w2 e q
  obtain ⟨a, b, rfl, rfl, rfl⟩ := Mini.sub_inv e
  rw [w1.int] at r1
  rw [w2.int] at r2
  exact op_sub pins s σ H _ _ _ _ Q I r1 r2 ⟨a, b, rfl, rfl, q _ H R StpE.refl intV⟩
theorem ops_fdiv : OpS G X .fresh (binaryOp .FloorDiv) (fun _ => Mini.binD .fdiv) := by
  intro C pins s ρ st ι σ H x y d v1 v2 u1 u2 Q I r1 r2 R w1 w2 e q
  obtain ⟨a, b, rfl, rfl, rfl, h1, h2⟩ := Mini.fdiv_inv e
  rw [w1.int] at r1
  rw [w2.int] at r2
  exact op_fdiv pins s σ H _ _ _ _ Q I r1 r2 ⟨a, b, rfl, rfl, ⟨h1, h2⟩, q _ H R StpE.refl intV⟩
theorem ops_mod : OpS G X .fresh (binaryOp .Mod) (fun _ => Mini.binD .mod) := by
  intro C pins s ρ st ι σ H x y d v1 v2 u1 u2 Q I r1 r2 R w1 w2 e q
  obtain ⟨a, b, rfl, rfl, rfl, h1⟩ := Mini.mod_inv e
  rw [w1.int] at r1
  rw [w2.int] at r2
  exact op_mod pins s σ H _ _ _ _ Q I r1 r2 ⟨a, b, rfl, rfl, h1, q _ H R StpE.refl intV⟩
theorem ops_pow : OpS G X .fresh (binaryOp .Pow) (fun _ => Mini.binD .pow) := by
  intro C pins s ρ st ι σ H x y d v1 v2 u1 u2 Q I r1 r2 R w1 w2 e q
  obtain ⟨a, b, rfl, rfl, rfl, h1, h2, h3⟩ := Mini.pow_inv e
  rw [w1.int] at r1
  rw [w2.int] at r2
  exact op_pow pins s σ H _ _ _ _ Q I r1 r2 ⟨a, b, rfl, rfl, ⟨h1, h2, h3⟩, q _ H R StpE.refl intV⟩

/-! ### a tuple, a list so many times -/
theorem tup_mul_self (l : Addr) (its : Array Value) (n : Nat) (dd : Option Addr) (sl : Array (Option Value)) (x : Int) (u : Tok) (h0 : (decide (x < -(2 ^ 63)) || decide (x ≥ 2 ^ 63)) = false) (h1 : (its.isEmpty || x == 1) = true) :
    Meets (Builtin.«tuple.__mul__» ⟨[.ref l, .int x u], []⟩) (fun _ R s => s.heap.get? l = some { cls := .type "tuple", dict := dd, data := .seq its n, slots := sl } ∧ R (.ok (.ret (Value.ref l))) s) :=
  .of_wp fun P w A R s h => by
    obtain ⟨hp, gs, dr, tk, os⟩ := s
    obtain ⟨hl, hR⟩ := h
    have isIx := AutoSeq1.idx_int
    wp_walk using AutoSeq1.wpAny_loadPart' hl
    repeat (first
      | (refine wpAny_ite_false (decide_eq_false (by rw [h0]; decide)) ?_; wp_walk using AutoSeq1.wpAny_loadPart' hl)
      | (refine wpAny_ite_true (decide_eq_true (by rw [h1])) ?_; wp_walk using AutoSeq1.wpAny_loadPart' hl))
    exact ⟨_, rfl, hR⟩
theorem tup_mul_none (l : Addr) (its : Array Value) (n : Nat) (dd : Option Addr) (sl : Array (Option Value)) (x : Int) (u : Tok) (h0 : (decide (x < -(2 ^ 63)) || decide (x ≥ 2 ^ 63)) = false) (h1 : (its.isEmpty || x == 1) = false) (h2 : (decide (x ≤ 0) || its.isEmpty) = true) :
    Meets (Builtin.«tuple.__mul__» ⟨[.ref l, .int x u], []⟩) (fun _ R s => s.heap.get? l = some { cls := .type "tuple", dict := dd, data := .seq its n, slots := sl } ∧ R (.ok (.ret (Value.ref s.heap.objs.size))) { s with heap := s.heap.push { cls := Value.type "tuple", data := Data.seq #[] } }) :=
  .of_wp fun P w A R s h => by
    obtain ⟨hp, gs, dr, tk, os⟩ := s
    obtain ⟨hl, hR⟩ := h
    have isIx := AutoSeq1.idx_int
    wp_walk using AutoSeq1.wpAny_loadPart' hl
    repeat (first
      | (refine wpAny_ite_false (decide_eq_false (by rw [h0]; decide)) ?_; wp_walk using AutoSeq1.wpAny_loadPart' hl)
      | (refine wpAny_ite_false (decide_eq_false (by rw [h1]; decide)) ?_; wp_walk using AutoSeq1.wpAny_loadPart' hl)
      | (refine wpAny_ite_true (decide_eq_true (by rw [h2])) ?_; wp_walk using AutoSeq1.wpAny_loadPart' hl))
    exact ⟨_, rfl, hR⟩
theorem Vals.repN {xs : List V} {us : List Value} (h : Vals xs us) : ∀ n : Nat, Vals (Mini.rep xs n) (Mini.rep us n)
  | 0 => by unfold Mini.rep; simpa using .nil
  | n + 1 => by
    have ih := Vals.repN h n
    unfold Mini.rep at ih ⊢
    simp only [List.replicate_succ, List.flatten_cons]
    exact h.append ih
theorem Rps.repN {G : Gx} {ds : List D} {vs : List V} (h : Rps G ι W H ds vs) : ∀ n : Nat, Rps G ι W H (Mini.rep ds n) (Mini.rep vs n)
  | 0 => by unfold Mini.rep; simpa using .nil
  | n + 1 => by
    have ih := Rps.repN h n
    unfold Mini.rep at ih ⊢
    simp only [List.replicate_succ, List.flatten_cons]
    exact h.app ih
theorem rep_length {α : Type} (xs : List α) (n : Nat) : (Mini.rep xs n).length = n * xs.length := by
  unfold Mini.rep
  exact PyProof.Rows.lm_len_rep_flat ..
/-- tuple * int is what tuple.__mul__ says -/
theorem mulRoad {prog : Program} {w : World} {A : Around} {E : Value → Shared → Prop} {s : Shared} {l : Addr} {k : Int} {t : Tok} {its : Array Value} {m : Nat} {dd : Option Addr} {sl : Array (Option Value)} {Q : Value → Shared → Prop}
    (ho : s.heap.get? l = some { cls := .type "tuple", dict := dd, data := .seq its m, slots := sl }) (h : wpAny (model prog w) A (call (.builtin "tuple.__mul__") [.ref l, .int k t]) Q E s) :
    wpAny (model prog w) A (binaryOp .Mult (.ref l) (.int k t)) Q E s := by
  have ty : s.TypeIs (.ref l) "tuple" := ⟨_, ho, rfl⟩
  have first : wpAny (model prog w) A (call (.builtin "int.__rmul__") [.int k t, .ref l]) (fun v s' => v = Value.notImplemented ∧ s'.TypeIs (.ref l) "tuple" ∧ wpAny (model prog w) A (call (.builtin "tuple.__mul__") [.ref l, .int k t]) Q E s') E s :=
    call_meets F.slot_int_rmul (typeIs_int s k t) F.entry_int_rmul (F.args_int_rmul_2 _ _) (int_rmul_tuple k t l its m dd sl) ⟨ho, rfl, ty, h⟩
  exact wpAny_binaryOp_repeat_ref (U := "int") (by decide) ty (fun z => typeIs_int z k t) noFill_tuple_mul F.fills_int_mul F.slot_int_rmul repeat_tuple F.slot_int_index.lookup first
/-- a tuple times 0 .. 1000: the library's op_repT from 2 on -/
theorem op_mulT : OpR X (binaryOp .Mult) (fun x y H Q => ∃ l k xs, x = .ref l ∧ y = .int k ∧ SqT X.K H l xs ∧ 0 ≤ k ∧ k ≤ 1000 ∧ xs.length ≤ 1000 ∧
    ((xs = [] ∨ k = 1) → Q (.ref l) H) ∧ (∀ p, H p = none → Q (.ref p) (upd H p (.tup (Mini.rep xs k.toNat))))) := by
  intro pins s σ H x y v u Q I rx ry ⟨l, k, xs, ex, ey, hT, k0, k1, hn, qs, qn⟩
  by_cases big : xs ≠ [] ∧ 2 ≤ k
  · exact op_repT pins s σ H x y v u Q I rx ry ⟨l, k, xs, ex, ey, hT, big.1, big.2, k1, hn, qn⟩
  · subst ex ey
    cases rx
    obtain ⟨t, rfl⟩ := ry
    obtain ⟨us, r, pl, _⟩ := I.tuple hT
    obtain ⟨ob, ho, hc, m, hd⟩ := pl
    have same : ob = { cls := .type "tuple", dict := ob.dict, data := .seq us.toArray m, slots := ob.slots } := by rw [← hc, ← hd]
    rw [same] at ho
    have inR : (decide (k < -(2 ^ 63)) || decide (k ≥ 2 ^ 63)) = false := by simp only [Bool.or_eq_false_iff, decide_eq_false_iff_not]; omega
    have nil_iff : us = [] ↔ xs = [] := by
      have := r.length
      rw [← List.length_eq_zero_iff, ← List.length_eq_zero_iff, this]
    refine mulRoad ho ?_
    by_cases one : xs = [] ∨ k = 1
    · have b1 : (us.toArray.isEmpty || k == 1) = true := by rcases one with z | z <;> simp [z, nil_iff.mpr]
      exact call_meets F.slot_tuple_mul ⟨_, ho, rfl⟩ F.entry_tuple_mul (F.args_tuple_mul_2 _ _) (tup_mul_self l us.toArray m _ _ k t inR b1) ⟨ho, .ref l, H, I, rfl, qs one⟩
    · have z0 : k = 0 := by
        have n1 : k ≠ 1 := fun e => one (.inr e)
        have n2 : ¬ 2 ≤ k := fun z => big ⟨fun e => one (.inl e), z⟩
        omega
      subst z0
      have b1 : (us.toArray.isEmpty || (0 : Int) == 1) = false := by
        have : us ≠ [] := fun e => one (.inl (nil_iff.mp e))
        simpa using this
      have q := qn s.heap.objs.size (I.hok.fresh (Nat.le_refl _))
      exact call_meets F.slot_tuple_mul ⟨_, ho, rfl⟩ F.entry_tuple_mul (F.args_tuple_mul_2 _ _) (tup_mul_none l us.toArray m _ _ 0 t inR b1 (by simp)) ⟨ho, .ref s.heap.objs.size, _, I.laid (t' := s.toks) (o := .tup []) (fun _ _ e => Heap.get?_push_of_some _ e) (Nat.le_refl _) ⟨Nat.zero_le _, [], .nil, IsTup.new _ _⟩, rfl, q⟩
theorem ops_mul (hX : XOk G X n) : OpS G X .fresh (binaryOp .Mult) (fun _ => Mini.binD .mul) := by
  intro C pins s ρ st ι σ H x y d v1 v2 u1 u2 Q I r1 r2 R w1 w2 e q
  have hs24 := line_eq
  rcases Mini.mul_inv e with ⟨a, b, rfl, rfl, rfl, hb⟩ | ⟨a, b, rfl, rfl, rfl, h0, h1, hn, hz⟩
  · rw [w1.int] at r1
    rw [w2.int] at r2
    have c : CMul a b := by
      unfold Mini.smallI at hb
      simp only [Bool.or_eq_true, Bool.and_eq_true, decide_eq_true_eq] at hb
      exact hb
    exact op_mul pins s σ H _ _ _ _ Q I r1 r2 ⟨a, b, rfl, rfl, c, q _ H R StpE.refl intV⟩
  · obtain ⟨p1, vs1, rfl, q1, m1⟩ := w1.tup
    rw [w2.int] at r2
    have k1 := q1.q
    rw [← hX.k] at k1
    refine op_mulT pins s σ H _ _ _ _ Q I r1 r2 ⟨p1, b, vs1, rfl, rfl, k1, h0, h1, by rw [← m1.length]; exact hn, fun h => ?_, fun p hp => ?_⟩
    · have e : Mini.rep a b.toNat = a := by
        rcases h with h | h
        · subst h
          cases m1
          unfold Mini.rep
          simp
        · subst h
          unfold Mini.rep
          simp
      rw [e] at q
      exact q _ H R StpE.refl ⟨.tup q1 m1, fun z => z.elim⟩
    · exact q _ _ (R.new hp).1 (R.new hp).2 ⟨R.newTup hp (m1.repN _), fun z => z.elim⟩
end
end Snd
end
section
set_option maxRecDepth 100000
set_option maxHeartbeats 4000000
/-! Snd5: == of data; comparisons. -/
namespace Snd
open PySem PySem.Spec PyProof.Rows L2
open Mini (D Sl Xc Res SRes Ex Ar Itr Stm Tgt)
mutual
def toP : D → PyData
  | .non => .none
  | .bl b => .bool b
  | .int i => .int i
  | .str s => .str (sS s)
  | .tup ds => .tuple (toPs ds)
  | .lst ds => .list (toPs ds)
  | .dic _ _ => .none
  | .cell _ => .none
  | .fn _ => .none
def toPs : List D → List PyData
  | [] => []
  | d :: ds => toP d :: toPs ds
end
theorem sS_inj {a b : List Nat} : (sS a == sS b) = (a == b) := by
  refine Bool.eq_iff_iff.mpr ?_
  simp only [beq_iff_eq]
  constructor
  · intro h
    have := congrArg (fun z : Str => z.cps.toList) h
    simpa [sS] using this
  · intro h; rw [h]
mutual
theorem eqv_toP : ∀ (x y : D) (n m : Nat), Mini.okD x n = true → Mini.okD y m = true → PyData.eqv (toP x) (toP y) = Mini.eqv x y
  | .tup as, .tup bs, n, m, h1, h2 => by
    cases n with
    | zero => cases h1
    | succ n =>
      cases m with
      | zero => cases h2
      | succ m => exact eqvs_toP as bs n m h1 h2
  | .lst as, .lst bs, n, m, h1, h2 => by
    cases n with
    | zero => cases h1
    | succ n =>
      cases m with
      | zero => cases h2
      | succ m => exact eqvs_toP as bs n m h1 h2
  | .str a, .str b, _, _, _, _ => sS_inj
  | .non, y, _, m, _, h => by cases y <;> first | rfl | (cases m <;> cases h)
  | .bl _, y, _, m, _, h => by cases y <;> first | rfl | (cases m <;> cases h)
  | .int _, y, _, m, _, h => by cases y <;> first | rfl | (cases m <;> cases h)
  | .str _, .non, _, _, _, _ => rfl
  | .str _, .bl _, _, _, _, _ => rfl
  | .str _, .int _, _, _, _, _ => rfl
  | .str _, .tup _, _, _, _, _ => rfl
  | .str _, .lst _, _, _, _, _ => rfl
  | .str _, .dic _ _, _, m, _, h => by cases m <;> cases h
  | .str _, .cell _, _, m, _, h => by cases m <;> cases h
  | .str _, .fn _, _, m, _, h => by cases m <;> cases h
  | .tup _, .non, _, _, _, _ => rfl
  | .tup _, .bl _, _, _, _, _ => rfl
  | .tup _, .int _, _, _, _, _ => rfl
  | .tup _, .str _, _, _, _, _ => rfl
  | .tup _, .lst _, _, _, _, _ => rfl
  | .tup _, .dic _ _, _, m, _, h => by cases m <;> cases h
  | .tup _, .cell _, _, m, _, h => by cases m <;> cases h
  | .tup _, .fn _, _, m, _, h => by cases m <;> cases h
  | .lst _, .non, _, _, _, _ => rfl
  | .lst _, .bl _, _, _, _, _ => rfl
  | .lst _, .int _, _, _, _, _ => rfl
  | .lst _, .str _, _, _, _, _ => rfl
  | .lst _, .tup _, _, _, _, _ => rfl
  | .lst _, .dic _ _, _, m, _, h => by cases m <;> cases h
  | .lst _, .cell _, _, m, _, h => by cases m <;> cases h
  | .lst _, .fn _, _, m, _, h => by cases m <;> cases h
  | .dic _ _, _, n, _, h, _ => by cases n <;> cases h
  | .cell _, _, n, _, h, _ => by cases n <;> cases h
  | .fn _, _, n, _, h, _ => by cases n <;> cases h
theorem eqvs_toP : ∀ (x y : List D) (n m : Nat), Mini.okDs x n = true → Mini.okDs y m = true → PyData.eqvAll (toPs x) (toPs y) = Mini.eqvs x y
  | [], [], _, _, _, _ => rfl
  | [], _ :: _, _, _, _, _ => rfl
  | _ :: _, [], _, _, _, _ => rfl
  | a :: as, b :: bs, n, m, h1, h2 => by
    have h1 := Bool.and_eq_true_iff.mp (show (Mini.okD a n && Mini.okDs as n) = true from h1)
    have h2 := Bool.and_eq_true_iff.mp (show (Mini.okD b m && Mini.okDs bs m) = true from h2)
    show (PyData.eqv (toP a) (toP b) && PyData.eqvAll (toPs as) (toPs bs)) = (Mini.eqv a b && Mini.eqvs as bs)
    rw [eqv_toP a b n m h1.1 h2.1, eqvs_toP as bs n m h1.2 h2.2]
end
section
variable {G : Gy} {C : FCx} {X : Cx} {n : Nat} {ι ι' : List Addr} {W W' : Addr → Prop} {H H' : Hp} {ρ : Mini.Env} {st : Mini.Store} {σ : L2.St} {k : Kd}
mutual
/-- data in the heap, as the kit tells it -/
theorem Rp.dp : ∀ (d : D) (v : V) (m : Nat), Rp G.toGx ι W H d v → Mini.okD d m = true → Dp G.K H v (toP d) ∧ PyData.canLay0 (toP d) = true ∧ (toP d).depth ≤ m
  | .non, _, m, h, _ => by cases h; exact ⟨.non, rfl, Nat.zero_le _⟩
  | .bl b, _, m, h, _ => by cases h; exact ⟨.bl b, rfl, Nat.zero_le _⟩
  | .int i, _, m, h, _ => by cases h; exact ⟨.int i, rfl, Nat.zero_le _⟩
  | .str s, _, m, h, _ => by
    cases h with
    | str _ h1 h2 =>
      refine ⟨.str _, ?_, Nat.zero_le _⟩
      show (sS s).cps.all (· < 0x110000) = true
      rw [← Array.all_toList, sS_cps]
      exact List.all_eq_true.mpr fun c hc => decide_eq_true (h1 c hc)
  | .tup ds, _, m, h, e => by
    cases m with
    | zero => cases e
    | succ m =>
      cases h with
      | tup h1 h2 =>
        obtain ⟨a, b, c⟩ := Rps.dp ds _ m h2 e
        exact ⟨.tup h1.q a, b, Nat.succ_le_succ c⟩
  | .lst ds, _, m, h, e => by
    cases m with
    | zero => cases e
    | succ m =>
      cases h with
      | lst h1 h2 =>
        obtain ⟨a, b, c⟩ := Rps.dp ds _ m h2 e
        exact ⟨.lst h1.q a, b, Nat.succ_le_succ c⟩
  | .dic _ _, _, m, _, e => by cases m <;> cases e
  | .cell _, _, m, _, e => by cases m <;> cases e
  | .fn _, _, m, _, e => by cases m <;> cases e
theorem Rps.dp : ∀ (d : List D) (v : List V) (m : Nat), Rps G.toGx ι W H d v → Mini.okDs d m = true → DpAll G.K H v (toPs d) ∧ PyData.canLayAll0 (toPs d) = true ∧ PyData.depthAll (toPs d) ≤ m
  | [], _, m, h, _ => by cases h; exact ⟨.nil, rfl, Nat.zero_le _⟩
  | a :: as, _, m, h, e => by
    have e := Bool.and_eq_true_iff.mp (show (Mini.okD a m && Mini.okDs as m) = true from e)
    cases h with
    | cons h1 h2 =>
      obtain ⟨a1, b1, c1⟩ := Rp.dp a _ m h1 e.1
      obtain ⟨a2, b2, c2⟩ := Rps.dp as _ m h2 e.2
      exact ⟨.cons a1 a2, Bool.and_eq_true_iff.mpr ⟨b1, b2⟩, Nat.max_le.mpr ⟨c1, c2⟩⟩
end
theorem RpW.dp {d : D} {v : V} (h : RpW G.toGx ι W H d v) (e : Mini.okD d 64 = true) : Dp G.K H v (toP d) ∧ SeqAt.shaped (toP d) = true := by
  have fin : Dp G.K H v (toP d) ∧ PyData.canLay0 (toP d) = true ∧ (toP d).depth ≤ 64 := by
    rcases h with h | ⟨a, _, ev, h⟩
    · exact Rp.dp d v 64 h e
    · cases d with
      | lst ds =>
        obtain ⟨vs, h1, h2⟩ := h
        subst ev
        obtain ⟨a1, b1, c1⟩ := Rps.dp ds _ 63 h2 e
        exact ⟨.lst (SqL.of h1) a1, b1, Nat.succ_le_succ c1⟩
      | dic ks vs => cases e
      | _ => exact h.elim
  exact ⟨fin.1, Bool.and_eq_true_iff.mpr ⟨fin.2.1, decide_eq_true fin.2.2⟩⟩
theorem eqD_inv {x y : D} {b : Bool} (h : Mini.eqD x y = some b) : Mini.okD x 64 = true ∧ Mini.okD y 64 = true ∧ b = Mini.eqv x y := by
  unfold Mini.eqD at h
  split at h
  · rename_i q
    simp only [Bool.and_eq_true] at q
    exact ⟨q.1, q.2, (Option.some.inj h).symm⟩
  · cases h
abbrev cmpO (o : Mini.COp) : Mini.Store → D → D → Option D := fun _ x y => (Mini.cmpD o x y).map .bl
theorem blQ {b : Bool} {Q : VK} (R : Rl G.toGx C ρ st ι σ H) (q : ∀ v H', Rl G.toGx C ρ st ι σ H' → StpE ι H ι H' → ResR G.toGx .strong H ι (Wr C ι ρ σ) H' (.bl b) v → Q v H') : Q (.bl b) H := q _ H R StpE.refl blV
theorem ops_eq (hX : XOk G X n) : OpS G X .strong (compareOp .Eq) (cmpO .eq) := by
  intro C pins s ρ st ι σ H x y d v1 v2 u1 u2 Q I r1 r2 R w1 w2 e q
  obtain ⟨b, hb, rfl⟩ := Option.map_eq_some_iff.mp e
  obtain ⟨o1, o2, rfl⟩ := eqD_inv hb
  obtain ⟨d1, s1⟩ := w1.dp o1
  obtain ⟨d2, s2⟩ := w2.dp o2
  rw [← hX.k] at d1 d2
  refine op_eqD hX.room.units pins s σ H _ _ _ _ Q I r1 r2 ⟨_, _, d1, d2, s1, s2, ?_⟩
  rw [eqv_toP x y 64 64 o1 o2]
  exact blQ R q
theorem ops_ne (hX : XOk G X n) : OpS G X .strong (compareOp .NotEq) (cmpO .ne) := by
  intro C pins s ρ st ι σ H x y d v1 v2 u1 u2 Q I r1 r2 R w1 w2 e q
  obtain ⟨b, hb, rfl⟩ := Option.map_eq_some_iff.mp e
  obtain ⟨b', hb', rfl⟩ := Option.map_eq_some_iff.mp (show (Mini.eqD x y).map (!·) = some b from hb)
  obtain ⟨o1, o2, rfl⟩ := eqD_inv hb'
  obtain ⟨d1, s1⟩ := w1.dp o1
  obtain ⟨d2, s2⟩ := w2.dp o2
  rw [← hX.k] at d1 d2
  refine op_neD hX.room.units pins s σ H _ _ _ _ Q I r1 r2 ⟨_, _, d1, d2, s1, s2, ?_⟩
  rw [eqv_toP x y 64 64 o1 o2]
  exact blQ R q
theorem ops_lt : OpS G X .strong (compareOp .Lt) (cmpO .lt) := by
  intro C pins s ρ st ι σ H x y d v1 v2 u1 u2 Q I r1 r2 R w1 w2 e q
  obtain ⟨b, hb, rfl⟩ := Option.map_eq_some_iff.mp e
  obtain ⟨i, j, rfl, rfl, rfl⟩ := Mini.ltC_inv (.inl ⟨rfl, rfl⟩) hb
  rw [w1.int] at r1; rw [w2.int] at r2
  exact op_lt pins s σ H _ _ _ _ Q I r1 r2 ⟨i, j, rfl, rfl, blQ R q⟩
theorem ops_le : OpS G X .strong (compareOp .LtE) (cmpO .le) := by
  intro C pins s ρ st ι σ H x y d v1 v2 u1 u2 Q I r1 r2 R w1 w2 e q
  obtain ⟨b, hb, rfl⟩ := Option.map_eq_some_iff.mp e
  obtain ⟨i, j, rfl, rfl, rfl⟩ := Mini.ltC_inv (.inr (.inl ⟨rfl, rfl⟩)) hb
  rw [w1.int] at r1; rw [w2.int] at r2
  exact op_le pins s σ H _ _ _ _ Q I r1 r2 ⟨i, j, rfl, rfl, blQ R q⟩
theorem ops_gt : OpS G X .strong (compareOp .Gt) (cmpO .gt) := by
  intro C pins s ρ st ι σ H x y d v1 v2 u1 u2 Q I r1 r2 R w1 w2 e q
  obtain ⟨b, hb, rfl⟩ := Option.map_eq_some_iff.mp e
  obtain ⟨i, j, rfl, rfl, rfl⟩ := Mini.ltC_inv (.inr (.inr (.inl ⟨rfl, rfl⟩))) hb
  rw [w1.int] at r1; rw [w2.int] at r2
  exact op_gt pins s σ H _ _ _ _ Q I r1 r2 ⟨i, j, rfl, rfl, blQ R q⟩
theorem ops_ge : OpS G X .strong (compareOp .GtE) (cmpO .ge) := by
  intro C pins s ρ st ι σ H x y d v1 v2 u1 u2 Q I r1 r2 R w1 w2 e q
  obtain ⟨b, hb, rfl⟩ := Option.map_eq_some_iff.mp e
  obtain ⟨i, j, rfl, rfl, rfl⟩ := Mini.ltC_inv (.inr (.inr (.inr ⟨rfl, rfl⟩))) hb
  rw [w1.int] at r1; rw [w2.int] at r2
  exact op_ge pins s σ H _ _ _ _ Q I r1 r2 ⟨i, j, rfl, rfl, blQ R q⟩
theorem isNon {d : D} {v : V} (h : RpW G.toGx ι W H d v) : decide (v = .non) = Mini.isNonB d := by
  rcases h with h | ⟨a, _, ev, h⟩
  · cases h <;> rfl
  · subst ev
    cases d <;> first | rfl | exact h.elim
theorem isN_inv {x y d : D} (h : cmpO .isN [] x y = some d) : y = .non ∧ d = .bl (Mini.isNonB x) := by
  cases y <;> first | (cases h; exact ⟨rfl, rfl⟩) | (cases x <;> cases h)
theorem notN_inv {x y d : D} (h : cmpO .notN [] x y = some d) : y = .non ∧ d = .bl (!Mini.isNonB x) := by
  cases y <;> first | (cases h; exact ⟨rfl, rfl⟩) | (cases x <;> cases h)
theorem ops_isN : OpS G X .strong (compareOp .Is) (cmpO .isN) := by
  intro C pins s ρ st ι σ H x y d v1 v2 u1 u2 Q I r1 r2 R w1 w2 e q
  obtain ⟨rfl, rfl⟩ := isN_inv e
  rw [w2.non] at r2
  refine op_isN pins s σ H _ _ _ _ Q I r1 r2 ⟨rfl, ?_⟩
  rw [isNon w1]
  exact blQ R q
theorem ops_notN : OpS G X .strong (compareOp .IsNot) (cmpO .notN) := by
  intro C pins s ρ st ι σ H x y d v1 v2 u1 u2 Q I r1 r2 R w1 w2 e q
  obtain ⟨rfl, rfl⟩ := notN_inv e
  rw [w2.non] at r2
  refine op_notN pins s σ H _ _ _ _ Q I r1 r2 ⟨rfl, ?_⟩
  rw [isNon w1]
  exact blQ R q
theorem any_toP {x : D} {n m : Nat} (h : Mini.okD x n = true) : ∀ ys : List D, Mini.okDs ys m = true → (toPs ys).any (fun z => PyData.eqv z (toP x)) = ys.any fun y => Mini.eqv y x
  | [], _ => rfl
  | y :: ys, e => by
    have e := Bool.and_eq_true_iff.mp (show (Mini.okD y m && Mini.okDs ys m) = true from e)
    show (PyData.eqv (toP y) (toP x) || (toPs ys).any _) = _
    rw [eqv_toP y x m n e.1 h, any_toP h ys e.2]
    rfl
theorem inL_inv {x : D} {ys : List D} {b : Bool} (h : Mini.inL x ys = some b) : Mini.okD x 64 = true ∧ Mini.okDs ys 63 = true ∧ b = ys.any fun y => Mini.eqv y x := by
  unfold Mini.inL at h
  split at h
  · rename_i q
    simp only [Bool.and_eq_true] at q
    exact ⟨q.1, q.2, (Option.some.inj h).symm⟩
  · cases h
theorem room65 {A : Around} {n : Nat} (r : Room n A) : A.units + 65 < cLine := by have := r.un; omega
/-- in a list, in a tuple -/
theorem in_seq (hX : XOk G X n) {neg : Bool} {x y : D} {v1 v2 : V} {u1 u2 : Value} {pins : List (Addr × Obj)} {s : Shared} {Q : VK} {b : Bool} {ys : List D} (I : Inv X pins σ H s) (r1 : RelV v1 u1) (r2 : RelV v2 u2)
    (w1 : RpW G.toGx ι W H x v1) (w2 : RpW G.toGx ι W H y v2) (hy : y = .lst ys ∨ y = .tup ys) (h : Mini.inL x ys = some b) (q : Q (.bl (if neg then !b else b)) H) :
    wpAny (model X.prog X.w) X.A (compareOp (if neg then .NotIn else .In) u1 u2) (EP X pins σ Q) X.xe s := by
  obtain ⟨o1, o2, rfl⟩ := inL_inv h
  obtain ⟨d1, s1⟩ := w1.dp o1
  have o3 : Mini.okD y 64 = true := by rcases hy with rfl | rfl <;> exact o2
  obtain ⟨d2, s2⟩ := w2.dp o3
  rw [← hX.k] at d1 d2
  obtain ⟨as, q1⟩ := Dp.reads I (toP x) v1 u1 d1 r1
  obtain ⟨bs, q2⟩ := Dp.reads I (toP y) v2 u2 d2 r2
  have key : (toPs ys).any (fun z => PyData.eqv z (toP x)) = ys.any fun y => Mini.eqv y x := any_toP o1 ys o2
  rcases hy with rfl | rfl
  · cases neg with
    | false => exact SeqAt.in_list_reads q2 q1 (SeqAt.canLay_of_shaped s2) (SeqAt.canLay_of_shaped s1) (room_in_shaped s1 (room65 hX.room)) ⟨.bl _, H, I, rfl, by rw [key]; exact q⟩
    | true => exact SeqAt.notIn_list_reads q2 q1 (SeqAt.canLay_of_shaped s2) (SeqAt.canLay_of_shaped s1) (room_in_shaped s1 (room65 hX.room)) ⟨.bl _, H, I, rfl, by rw [key]; exact q⟩
  · cases neg with
    | false => exact SeqAt.in_tuple_reads q2 q1 (SeqAt.canLay_of_shaped s2) (SeqAt.canLay_of_shaped s1) (room_in_shaped s1 (room65 hX.room)) ⟨.bl _, H, I, rfl, by rw [key]; exact q⟩
    | true => exact SeqAt.notIn_tuple_reads q2 q1 (SeqAt.canLay_of_shaped s2) (SeqAt.canLay_of_shaped s1) (room_in_shaped s1 (room65 hX.room)) ⟨.bl _, H, I, rfl, by rw [key]; exact q⟩
end
end Snd
end
section
set_option maxRecDepth 100000
set_option maxHeartbeats 4000000
/-! Snd6: argument lists, displays, tests, calls. -/
namespace Snd
open PySem PySem.Spec PyProof.Rows L2
open Mini (D Sl Xc Res SRes Ex Ar Itr Stm Tgt)
section
variable (G : Gy)
def PostA (C : FCx) (ρ : Mini.Env) (ι : List Addr) (σ : L2.St) (H : Hp) (r : Res (List D)) (Q : List V → Hp → Prop) : Prop := match r with
  | .ok ds st' => ∀ vs ι' H', Rl G.toGx C ρ st' ι' σ H' → StpE ι H ι' H' → Rps G.toGx ι' (Wr C ι' ρ σ) H' ds vs → Q vs H'
  | .raise x st' => ∀ cls dx ι' H', Rl G.toGx C ρ st' ι' σ H' → ExcR G.ex H' x cls dx → C.EE cls dx H'
  | .stuck => False
def tA (C : FCx) (g : Mini.Env → Mini.Store → Res (List D)) : TA := fun σ H Q => ∃ ρ st ι, Rl G.toGx C ρ st ι σ H ∧ PostA G C ρ ι σ H (g ρ st) Q
def PostT (C : FCx) (ρ : Mini.Env) (ι : List Addr) (σ : L2.St) (H : Hp) (r : Res Bool) (Q : Bool → Hp → Prop) : Prop := match r with
  | .ok b st' => ∀ ι' H', Rl G.toGx C ρ st' ι' σ H' → StpE ι H ι' H' → Q b H'
  | .raise x st' => ∀ cls dx ι' H', Rl G.toGx C ρ st' ι' σ H' → ExcR G.ex H' x cls dx → C.EE cls dx H'
  | .stuck => False
def tT (C : FCx) (g : Mini.Env → Mini.Store → Res Bool) : TT := fun σ H Q => ∃ ρ st ι, Rl G.toGx C ρ st ι σ H ∧ PostT G C ρ ι σ H (g ρ st) Q
end
section
variable {G : Gy} {C : FCx} {X : Cx} {n : Nat} {ι ι' : List Addr} {W W' : Addr → Prop} {H H' : Hp} {ρ : Mini.Env} {st : Mini.Store} {σ : L2.St} {k : Kd}
abbrev EvL := Mini.Env → Mini.Store → Res (List D)
theorem paMono {es : List Expr} {t t' : TA} (h : PA X es t) (k : ∀ σ H Q, t' σ H Q → t σ H Q) : PA X es t' :=
  ⟨fun pos pins s σ H Q I q => h.run pos pins s σ H Q I (k σ H Q q)⟩
theorem PostA.from {r : Res (List D)} {Q : List V → Hp → Prop} (S1 : StpE ι H ι' H') (q : PostA G C ρ ι σ H r Q) : PostA G C ρ ι' σ H' r Q := by
  cases r with
  | ok d st' => exact fun v ι2 H2 R2 S2 w => q v ι2 H2 R2 (S1.trans S2) w
  | raise x st' => exact q
  | stuck => exact q
theorem PostT.from {r : Res Bool} {Q : Bool → Hp → Prop} (S1 : StpE ι H ι' H') (q : PostT G C ρ ι σ H r Q) : PostT G C ρ ι' σ H' r Q := by
  cases r with
  | ok d st' => exact fun ι2 H2 R2 S2 => q ι2 H2 R2 (S1.trans S2)
  | raise x st' => exact q
  | stuck => exact q
theorem sa_nil : PA X [] (tA G C fun _ st => .ok [] st) := paMono pa_nil fun σ H Q ⟨ρ, st, ι, R, q⟩ => q [] ι H R StpE.refl .nil
def NoStar (e : Expr) : Prop := ∀ x p, e ≠ .Starred x p
theorem star_cons {e : Expr} (h : NoStar e) (es : List Expr) (env : Env) : starEach (e :: es) env = (false, eval e env) :: starEach es env := by
  cases e <;> first | rfl | exact absurd rfl (h _ _)
/-- the reading of an expression, then something -/
theorem tE_bind {ga : Ev} {Q : VK} (R : Rl G.toGx C ρ st ι σ H)
    (hr : ∀ x st1, ga ρ st = .raise x st1 → ∀ cls dx ι' H', Rl G.toGx C ρ st1 ι' σ H' → ExcR G.ex H' x cls dx → C.EE cls dx H') (hs : ga ρ st ≠ .stuck)
    (h : ∀ x st1 v ι1 H1, ga ρ st = .ok x st1 → Rl G.toGx C ρ st1 ι1 σ H1 → StpE ι H ι1 H1 → ResR G.toGx k H ι1 (Wr C ι1 ρ σ) H1 x v → Q v H1) : tE G C k ga σ H Q := by
  refine ⟨ρ, st, ι, R, ?_⟩
  cases e : ga ρ st with
  | ok x st1 => exact fun v ι1 H1 a b c => h x st1 v ι1 H1 e a b c
  | raise x st1 => exact fun cls dx ι' H' => hr x st1 e cls dx ι' H'
  | stuck => exact absurd e hs
theorem sa_cons {e : Expr} {es : List Expr} {ga : Ev} {gs : EvL} (hn : NoStar e) (ha : PE X e (tE G C .strong ga)) (hs : PA X es (tA G C gs)) :
    PA X (e :: es) (tA G C fun ρ st => (ga ρ st).bind fun d st1 => (gs ρ st1).bind fun ds st2 => .ok (d :: ds) st2) := by
  refine paMono (pa_cons ha hs (star_cons hn es _)) fun σ H Q ⟨ρ, st, ι, R, q⟩ => ?_
  refine tE_bind (G := G) (C := C) (k := .strong) R ?_ ?_ fun x st1 v ι1 H1 e1 R1 S1 w1 => ⟨ρ, st1, ι1, R1, ?_⟩
  · intro x st1 e; simp only [e] at q; exact q
  · intro e; simp only [e] at q; exact q
  · simp only [e1] at q
    have q : PostA G C ρ ι σ H ((gs ρ st1).bind fun ds st2 => .ok (x :: ds) st2) Q := q
    cases e2 : gs ρ st1 with
    | ok ds st2 => rw [e2] at q; exact fun vs ι2 H2 R2 S2 w2 => q _ ι2 H2 R2 (S1.trans S2) (.cons (Rp.mono S2.stp _ _ w1) w2)
    | raise y st2 => rw [e2] at q; exact q
    | stuck => rw [e2] at q; exact q
theorem tA_post {gs : EvL} {Q : VK} {Q' : List V → Hp → Prop} {gb : List D → Mini.Store → Res D} (R : Rl G.toGx C ρ st ι σ H) (q : PostE G C k ρ ι σ H ((gs ρ st).bind gb) Q)
    (h : ∀ ds st1 vs ι1 H1, gs ρ st = .ok ds st1 → Rl G.toGx C ρ st1 ι1 σ H1 → StpE ι H ι1 H1 → Rps G.toGx ι1 (Wr C ι1 ρ σ) H1 ds vs → PostE G C k ρ ι σ H (gb ds st1) Q → Q' vs H1) : tA G C gs σ H Q' := by
  refine ⟨ρ, st, ι, R, ?_⟩
  cases e : gs ρ st with
  | ok ds st1 => rw [e] at q; exact fun vs ι1 H1 a b c => h ds st1 vs ι1 H1 e a b c q
  | raise x st1 => rw [e] at q; exact q
  | stuck => rw [e] at q; exact q
theorem tE_post {k' : Kd} {ga : Ev} {Q Q' : VK} {gb : D → Mini.Store → Res D} (R : Rl G.toGx C ρ st ι σ H) (q : PostE G C k ρ ι σ H ((ga ρ st).bind gb) Q)
    (h : ∀ x st1 v ι1 H1, ga ρ st = .ok x st1 → Rl G.toGx C ρ st1 ι1 σ H1 → StpE ι H ι1 H1 → ResR G.toGx k' H ι1 (Wr C ι1 ρ σ) H1 x v → PostE G C k ρ ι σ H (gb x st1) Q → Q' v H1) : tE G C k' ga σ H Q' := by
  refine ⟨ρ, st, ι, R, ?_⟩
  cases e : ga ρ st with
  | ok ds st1 => rw [e] at q; exact fun vs ι1 H1 a b c => h ds st1 vs ι1 H1 e a b c q
  | raise x st1 => rw [e] at q; exact q
  | stuck => rw [e] at q; exact q
theorem se_tup {es : List Expr} {gs : EvL} {x1 : Nat} {pos : Pos} (hs : PA X es (tA G C gs)) : PE X (.Tuple es x1 pos) (tE G C .strong fun ρ st => (gs ρ st).bind fun ds st1 => Mini.lift (Mini.mkTup ds) st1) := by
  refine peMono (pe_tup hs) fun σ H Q ⟨ρ, st, ι, R, q⟩ => tA_post R q fun ds st1 vs ι1 H1 e1 R1 S1 w1 q1 => ?_
  unfold Mini.mkTup at q1
  split at q1
  · rename_i hz
    exact ⟨by rw [← w1.length]; exact fits_of hz, fun p hp => (q1.from S1) _ ι1 _ (R1.new hp).1 (R1.new hp).2 (R1.newTup hp w1)⟩
  · exact q1.elim
theorem se_lst {es : List Expr} {gs : EvL} {pos : Pos} (hs : PA X es (tA G C gs)) : PE X (.List es pos) (tE G C .fresh fun ρ st => (gs ρ st).bind fun ds st1 => Mini.lift (Mini.mkLst ds) st1) := by
  refine peMono (pe_lst hs) fun σ H Q ⟨ρ, st, ι, R, q⟩ => tA_post R q fun ds st1 vs ι1 H1 e1 R1 S1 w1 q1 => ?_
  unfold Mini.mkLst at q1
  split at q1
  · rename_i hz
    exact ⟨by rw [← w1.length]; exact fits_of hz, fun p hp => (q1.from S1) _ ι1 _ (R1.new hp).1 (R1.new hp).2 (R1.newLst hp w1)⟩
  · exact q1.elim
/-- a list that is to be a cell -/
theorem Rl.newCell (R : Rl G.toGx C ρ st ι σ H) {p : Addr} {vs : List V} {ds : List D} (h : H p = none) (r : Rps G.toGx ι (Wr C ι ρ σ) H ds vs) (fl : (Mini.intL ds).isSome = true) :
    Rl G.toGx C ρ (st ++ [ds]) (ι ++ [p]) σ (upd H p (.lst vs)) ∧ StpE ι H (ι ++ [p]) (upd H p (.lst vs)) := by
  have s0 := (R.new (o := .lst vs) h).2
  have se : StpE ι H (ι ++ [p]) (upd H p (.lst vs)) := ⟨⟨[p], rfl⟩, s0.keep, fun a z => by
    rcases List.mem_append.mp z with z | z
    · exact .inl z
    · rw [List.mem_singleton.mp z]; exact .inr h, s0.there⟩
  refine ⟨R.after se ⟨by simp [R.sto.len], ?_, fun i x e => ?_, fun i x e => ?_⟩ (R.new (o := .lst vs) h).1.snc.tabs, se⟩
  · refine List.nodup_append.mpr ⟨R.sto.nd, by simp, fun a ha b hb => ?_⟩
    rw [List.mem_singleton.mp hb]
    obtain ⟨us, q⟩ := R.sto.there ha
    exact ne_of_none q h
  · by_cases hi : i < st.length
    · rw [List.getElem?_append_left hi] at e
      exact R.sto.fl i x e
    · have hi0 : i = st.length := by
        have := (List.getElem?_eq_some_iff.mp e).1
        simp at this
        omega
      subst hi0
      rw [List.getElem?_append_right (Nat.le_refl _), Nat.sub_self] at e
      cases e
      exact fl
  · by_cases hi : i < st.length
    · rw [List.getElem?_append_left hi] at e
      obtain ⟨a, us, e1, e2, e3⟩ := R.sto.at_ i x e
      refine ⟨a, us, ?_, ?_, Rps.mono se.stp _ _ e3⟩
      · rw [List.getElem?_append_left (by rw [R.sto.len]; exact hi)]; exact e1
      · rw [upd_ne (ne_of_none e2 h)]; exact e2
    · rw [List.getElem?_append_right (by omega)] at e
      have hi0 : i - st.length = 0 := by
        cases z : i - st.length with
        | zero => rfl
        | succ m => rw [z] at e; simp at e
      rw [hi0] at e
      cases e
      refine ⟨p, vs, ?_, upd_same, Rps.mono se.stp _ _ r⟩
      rw [List.getElem?_append_right (by rw [R.sto.len]; omega), R.sto.len, hi0]
      rfl
theorem se_cell {es : List Expr} {gs : EvL} {pos : Pos} (hs : PA X es (tA G C gs)) : PE X (.List es pos) (tE G C .strong fun ρ st => (gs ρ st).bind fun ds st1 => if Mini.cellOk ds then .ok (.cell st1.length) (st1 ++ [ds]) else .stuck) := by
  refine peMono (pe_lst hs) fun σ H Q ⟨ρ, st, ι, R, q⟩ => tA_post R q fun ds st1 vs ι1 H1 e1 R1 S1 w1 q1 => ?_
  split at q1
  · rename_i hz
    obtain ⟨hz, fl⟩ := Bool.and_eq_true_iff.mp (show (Mini.fits ds && (Mini.intL ds).isSome) = true from hz)
    refine ⟨by rw [← w1.length]; exact fits_of hz, fun p hp => ?_⟩
    obtain ⟨R2, S2⟩ := R1.newCell hp w1 fl
    refine (q1.from S1) _ (ι1 ++ [p]) _ R2 S2 (.cell ?_)
    rw [← R1.sto.len]
    simp
  · exact q1.elim

/-! ### tests -/
theorem ptMono {e : Expr} {t t' : TT} (h : PT X e t) (k : ∀ σ H Q, t' σ H Q → t σ H Q) : PT X e t' :=
  ⟨fun pins s σ H Q I q => h.run pins s σ H Q I (k σ H Q q)⟩
abbrev tr (g : Ev) : Mini.Env → Mini.Store → Res Bool := fun ρ st => (g ρ st).bind fun x st1 => Mini.lift (Mini.truth x) st1
theorem truth_inv {x : D} {b : Bool} (h : Mini.truth x = some b) : x = .bl b := by
  cases x <;> first | (cases h; rfl) | cases h
theorem tE_postT {k' : Kd} {ga : Ev} {Q : Bool → Hp → Prop} {Q' : VK} {gb : D → Mini.Store → Res Bool} (R : Rl G.toGx C ρ st ι σ H) (q : PostT G C ρ ι σ H ((ga ρ st).bind gb) Q)
    (h : ∀ x st1 v ι1 H1, ga ρ st = .ok x st1 → Rl G.toGx C ρ st1 ι1 σ H1 → StpE ι H ι1 H1 → ResR G.toGx k' H ι1 (Wr C ι1 ρ σ) H1 x v → PostT G C ρ ι σ H (gb x st1) Q → Q' v H1) : tE G C k' ga σ H Q' := by
  refine ⟨ρ, st, ι, R, ?_⟩
  cases e : ga ρ st with
  | ok ds st1 => rw [e] at q; exact fun vs ι1 H1 a b c => h ds st1 vs ι1 H1 e a b c q
  | raise x st1 => rw [e] at q; exact q
  | stuck => rw [e] at q; exact q
theorem st_of {k' : Kd} {e : Expr} {g : Ev} (h : PE X e (tE G C k' g)) (he : ∀ whole, isTrue e X.env whole = (do let v ← whole; standAt e.pos; holding [v] (truthy v))) : PT X e (tT G C (tr g)) := by
  refine ptMono (pt_val h he) fun σ H Q ⟨ρ, st, ι, R, q⟩ => ?_
  refine tE_postT R q fun x st1 v ι1 H1 e1 R1 S1 w1 q1 => ?_
  cases hb : Mini.truth x with
  | none => rw [hb] at q1; exact q1.elim
  | some b =>
    rw [hb] at q1
    cases truth_inv hb
    exact ⟨b, w1.weak.bl, q1 ι1 H1 R1 S1⟩
/-- a comparison as a test -/
theorem st_cmp {k1 k2 : Kd} {a b : Expr} {ga gb : Ev} {o : CmpOp} {op : Mini.Store → D → D → Option D} {pos : Pos} (ho : OpS G X .strong (compareOp o) op) (hm : behindInMarks o b = false) (ha : PE X a (tE G C k1 ga)) (hb : PE X b (tE G C k2 gb)) :
    PT X (.Compare a [o] [b] pos) (tT G C (tr fun ρ st => (ga ρ st).bind fun x st1 => (gb ρ st1).bind fun y st2 => Mini.lift (op st2 x y) st2)) := by
  refine ⟨fun pins s σ H Q I ⟨ρ, st, ι, R, q⟩ => ?_⟩
  have key := two ho ha hb (by decide) (Q := fun v H1 => ∃ b, v = .bl b ∧ Q b H1) I ⟨ρ, st, ι, R, ?_⟩
  · refine wpAny_isTrue_Compare1 (thn key fun v s1 h1 => thn h1 fun u s2 h2 => thn h2 fun c s3 ⟨z, H3, I3, r3, b, eb, q3⟩ => ?_) hm
    subst eb
    cases r3
    have there : ∃ H', Inv X pins σ H' s3 ∧ Q b H' := ⟨H3, I3, q3⟩
    exact wpAny_truthy_bool there
  · dsimp only [tr] at q
    show PostE G C .strong ρ ι σ H ((ga ρ st).bind fun x st1 => (gb ρ st1).bind fun y st2 => Mini.lift (op st2 x y) st2) _
    cases e : ((ga ρ st).bind fun x st1 => (gb ρ st1).bind fun y st2 => Mini.lift (op st2 x y) st2) with
    | ok x st1 =>
      rw [e] at q
      intro v ι1 H1 R1 S1 w1
      have q : PostT G C ρ ι σ H (Mini.lift (Mini.truth x) st1) Q := q
      cases hb : Mini.truth x with
      | none => rw [hb] at q; exact q.elim
      | some b =>
        rw [hb] at q
        cases truth_inv hb
        have w1 : Rp G.toGx ι1 (Wr C ι1 ρ σ) H1 (.bl b) v := w1
        cases w1
        exact ⟨b, rfl, q ι1 H1 R1 S1⟩
    | raise x st1 => rw [e] at q; exact q
    | stuck => rw [e] at q; exact q
end
end Snd
end
section
set_option maxRecDepth 100000
set_option maxHeartbeats 4000000
/-! Snd7: not, and, or, if else, chains, items, slices. -/
namespace Snd
open PySem PySem.Spec PyProof.Rows L2
open Mini (D Sl Xc Res SRes Ex Ar Itr Stm Tgt)
section
variable {G : Gy} {C : FCx} {X : Cx} {n : Nat} {ι ι' : List Addr} {W W' : Addr → Prop} {H H' : Hp} {ρ : Mini.Env} {st : Mini.Store} {σ : L2.St} {k : Kd}
abbrev EvT := Mini.Env → Mini.Store → Res Bool
theorem tT_post {ga : EvT} {Q : VK} {Q' : Bool → Hp → Prop} {gb : Bool → Mini.Store → Res D} (R : Rl G.toGx C ρ st ι σ H) (q : PostE G C k ρ ι σ H ((ga ρ st).bind gb) Q)
    (h : ∀ x st1 ι1 H1, ga ρ st = .ok x st1 → Rl G.toGx C ρ st1 ι1 σ H1 → StpE ι H ι1 H1 → PostE G C k ρ ι σ H (gb x st1) Q → Q' x H1) : tT G C ga σ H Q' := by
  refine ⟨ρ, st, ι, R, ?_⟩
  cases e : ga ρ st with
  | ok ds st1 => rw [e] at q; exact fun ι1 H1 a b => h ds st1 ι1 H1 e a b q
  | raise x st1 => rw [e] at q; exact q
  | stuck => rw [e] at q; exact q
theorem tT_postT {ga : EvT} {Q Q' : Bool → Hp → Prop} {gb : Bool → Mini.Store → Res Bool} (R : Rl G.toGx C ρ st ι σ H) (q : PostT G C ρ ι σ H ((ga ρ st).bind gb) Q)
    (h : ∀ x st1 ι1 H1, ga ρ st = .ok x st1 → Rl G.toGx C ρ st1 ι1 σ H1 → StpE ι H ι1 H1 → PostT G C ρ ι σ H (gb x st1) Q → Q' x H1) : tT G C ga σ H Q' := by
  refine ⟨ρ, st, ι, R, ?_⟩
  cases e : ga ρ st with
  | ok ds st1 => rw [e] at q; exact fun ι1 H1 a b => h ds st1 ι1 H1 e a b q
  | raise x st1 => rw [e] at q; exact q
  | stuck => rw [e] at q; exact q
theorem bind_assoc {α β γ : Type} (r : Res α) (f : α → Mini.Store → Res β) (g : β → Mini.Store → Res γ) : (r.bind f).bind g = r.bind fun a s => (f a s).bind g := by
  cases r <;> rfl
theorem bind_ok {α β : Type} (a : α) (s : Mini.Store) (f : α → Mini.Store → Res β) : (Res.ok a s).bind f = f a s := rfl
/-- what a bool-valued expression gives, by its test -/
abbrev notG (g : Ev) : Ev := fun ρ st => (g ρ st).bind fun x st1 => Mini.lift ((Mini.truth x).map fun b => .bl (!b)) st1
theorem notG_eq (g : Ev) (ρ : Mini.Env) (st : Mini.Store) : notG g ρ st = (tr g ρ st).bind fun b st1 => .ok (.bl (!b)) st1 := by
  unfold notG tr
  cases g ρ st with
  | ok x st1 =>
    show Mini.lift ((Mini.truth x).map fun b => D.bl (!b)) st1 = (Mini.lift (Mini.truth x) st1).bind _
    cases Mini.truth x <;> rfl
  | raise x st1 => rfl
  | stuck => rfl
theorem tr_notG (g : Ev) (ρ : Mini.Env) (st : Mini.Store) : tr (notG g) ρ st = (tr g ρ st).bind fun b st1 => .ok (!b) st1 := by
  show (notG g ρ st).bind _ = _
  rw [notG_eq, bind_assoc]
  rfl
theorem se_not {e : Expr} {g : Ev} {k' : Kd} {pos : Pos} (h : PE X e (tE G C k' g)) : PE X (.UnaryOp .Not e pos) (tE G C .strong (notG g)) := by
  refine peMono (pe_not h) fun σ H Q ⟨ρ, st, ι, R, q⟩ => tE_post R q fun x st1 v ι1 H1 e1 R1 S1 w1 q1 => ?_
  cases hb : Mini.truth x with
  | none => rw [hb] at q1; exact q1.elim
  | some b =>
    rw [hb] at q1
    cases truth_inv hb
    exact ⟨b, w1.weak.bl, q1 _ ι1 H1 R1 S1 (.bl _)⟩
theorem st_not {e : Expr} {g : Ev} {pos : Pos} (h : PT X e (tT G C (tr g))) : PT X (.UnaryOp .Not e pos) (tT G C (tr (notG g))) := by
  refine ptMono (pt_not h) fun σ H Q ⟨ρ, st, ι, R, q⟩ => ?_
  rw [tr_notG] at q
  exact tT_postT R q fun b st1 ι1 H1 e1 R1 S1 q1 => q1 ι1 H1 R1 S1
abbrev andG (ga gb : Ev) : Ev := fun ρ st => (ga ρ st).bind fun x st1 => (Mini.lift (Mini.truth x) st1).bind fun k st2 => if k then gb ρ st2 else .ok (.bl false) st2
abbrev orG (ga gb : Ev) : Ev := fun ρ st => (ga ρ st).bind fun x st1 => (Mini.lift (Mini.truth x) st1).bind fun k st2 => if k then .ok (.bl true) st2 else gb ρ st2
theorem andG_eq (ga gb : Ev) (ρ : Mini.Env) (st : Mini.Store) : andG ga gb ρ st = (tr ga ρ st).bind fun k st2 => if k then gb ρ st2 else .ok (.bl false) st2 := by
  show (ga ρ st).bind _ = _
  rw [show tr ga ρ st = (ga ρ st).bind fun x st1 => Mini.lift (Mini.truth x) st1 from rfl, bind_assoc]
theorem orG_eq (ga gb : Ev) (ρ : Mini.Env) (st : Mini.Store) : orG ga gb ρ st = (tr ga ρ st).bind fun k st2 => if k then .ok (.bl true) st2 else gb ρ st2 := by
  show (ga ρ st).bind _ = _
  rw [show tr ga ρ st = (ga ρ st).bind fun x st1 => Mini.lift (Mini.truth x) st1 from rfl, bind_assoc]
theorem tr_andG (ga gb : Ev) (ρ : Mini.Env) (st : Mini.Store) : tr (andG ga gb) ρ st = (tr ga ρ st).bind fun k st2 => if k then tr gb ρ st2 else .ok false st2 := by
  show (andG ga gb ρ st).bind _ = _
  rw [andG_eq, bind_assoc]
  cases tr ga ρ st with
  | ok k st1 => cases k <;> rfl
  | raise x st1 => rfl
  | stuck => rfl
theorem tr_orG (ga gb : Ev) (ρ : Mini.Env) (st : Mini.Store) : tr (orG ga gb) ρ st = (tr ga ρ st).bind fun k st2 => if k then .ok true st2 else tr gb ρ st2 := by
  show (orG ga gb ρ st).bind _ = _
  rw [orG_eq, bind_assoc]
  cases tr ga ρ st with
  | ok k st1 => cases k <;> rfl
  | raise x st1 => rfl
  | stuck => rfl
theorem se_and {a b : Expr} {rest : List Expr} {ga gb : Ev} {k1 : Kd} {pos : Pos} (ha : PE X a (tE G C k1 ga)) (hb : PE X (.BoolOp .And (b :: rest) pos) (tE G C .strong gb)) :
    PE X (.BoolOp .And (a :: b :: rest) pos) (tE G C .strong (andG ga gb)) := by
  refine peMono (pe_and ha hb) fun σ H Q ⟨ρ, st, ι, R, q⟩ => tE_post R q fun x st1 v ι1 H1 e1 R1 S1 w1 q1 => ?_
  cases hk : Mini.truth x with
  | none => rw [hk] at q1; exact q1.elim
  | some c =>
    rw [hk] at q1
    cases truth_inv hk
    refine ⟨c, w1.weak.bl, ?_⟩
    cases c with
    | true => exact ⟨ρ, st1, ι1, R1, PostE.from S1 q1⟩
    | false => exact q1 _ ι1 H1 R1 S1 (.bl false)
theorem se_or {a b : Expr} {rest : List Expr} {ga gb : Ev} {k1 : Kd} {pos : Pos} (ha : PE X a (tE G C k1 ga)) (hb : PE X (.BoolOp .Or (b :: rest) pos) (tE G C .strong gb)) :
    PE X (.BoolOp .Or (a :: b :: rest) pos) (tE G C .strong (orG ga gb)) := by
  refine peMono (pe_or ha hb) fun σ H Q ⟨ρ, st, ι, R, q⟩ => tE_post R q fun x st1 v ι1 H1 e1 R1 S1 w1 q1 => ?_
  cases hk : Mini.truth x with
  | none => rw [hk] at q1; exact q1.elim
  | some c =>
    rw [hk] at q1
    cases truth_inv hk
    refine ⟨c, w1.weak.bl, ?_⟩
    cases c with
    | false => exact ⟨ρ, st1, ι1, R1, PostE.from S1 q1⟩
    | true => exact q1 _ ι1 H1 R1 S1 (.bl true)
theorem pwMono {e : Expr} {t t' : TT} (h : PW X e t) (k : ∀ σ H Q, t' σ H Q → t σ H Q) : PW X e t' :=
  ⟨fun wh pins s σ H Q I q => h.run wh pins s σ H Q I (k σ H Q q)⟩
theorem sw_and {a b : Expr} {rest : List Expr} {ga gb : Ev} {pos : Pos} (ha : PT X a (tT G C (tr ga))) (hb : PW X (.BoolOp .And (b :: rest) pos) (tT G C (tr gb))) :
    PW X (.BoolOp .And (a :: b :: rest) pos) (tT G C (tr (andG ga gb))) := by
  refine pwMono (pw_and ha hb) fun σ H Q ⟨ρ, st, ι, R, q⟩ => ?_
  rw [tr_andG] at q
  refine tT_postT R q fun c st1 ι1 H1 e1 R1 S1 q1 => ?_
  cases c with
  | true => exact ⟨ρ, st1, ι1, R1, PostT.from S1 q1⟩
  | false => exact q1 ι1 H1 R1 S1
theorem sw_or {a b : Expr} {rest : List Expr} {ga gb : Ev} {pos : Pos} (ha : PT X a (tT G C (tr ga))) (hb : PW X (.BoolOp .Or (b :: rest) pos) (tT G C (tr gb))) :
    PW X (.BoolOp .Or (a :: b :: rest) pos) (tT G C (tr (orG ga gb))) := by
  refine pwMono (pw_or ha hb) fun σ H Q ⟨ρ, st, ι, R, q⟩ => ?_
  rw [tr_orG] at q
  refine tT_postT R q fun c st1 ι1 H1 e1 R1 S1 q1 => ?_
  cases c with
  | false => exact ⟨ρ, st1, ι1, R1, PostT.from S1 q1⟩
  | true => exact q1 ι1 H1 R1 S1
abbrev iteG (gc ga gb : Ev) : Ev := fun ρ st => (gc ρ st).bind fun x st1 => (Mini.lift (Mini.truth x) st1).bind fun k st2 => if k then ga ρ st2 else gb ρ st2
theorem iteG_eq (gc ga gb : Ev) (ρ : Mini.Env) (st : Mini.Store) : iteG gc ga gb ρ st = (tr gc ρ st).bind fun k st2 => if k then ga ρ st2 else gb ρ st2 := by
  show (gc ρ st).bind _ = _
  rw [show tr gc ρ st = (gc ρ st).bind fun x st1 => Mini.lift (Mini.truth x) st1 from rfl, bind_assoc]
theorem tr_iteG (gc ga gb : Ev) (ρ : Mini.Env) (st : Mini.Store) : tr (iteG gc ga gb) ρ st = (tr gc ρ st).bind fun k st2 => if k then tr ga ρ st2 else tr gb ρ st2 := by
  show (iteG gc ga gb ρ st).bind _ = _
  rw [iteG_eq, bind_assoc]
  cases tr gc ρ st with
  | ok k st1 => cases k <;> rfl
  | raise x st1 => rfl
  | stuck => rfl
theorem se_ite {c a b : Expr} {gc ga gb : Ev} {pos : Pos} (hc : PT X c (tT G C (tr gc))) (ha : PE X a (tE G C .strong ga)) (hb : PE X b (tE G C .strong gb)) : PE X (.IfExp c a b pos) (tE G C .strong (iteG gc ga gb)) := by
  refine peMono (pe_ifExp hc ha hb) fun σ H Q ⟨ρ, st, ι, R, q⟩ => ?_
  rw [iteG_eq] at q
  refine tT_post R q fun k st1 ι1 H1 e1 R1 S1 q1 => ?_
  cases k with
  | true => exact ⟨ρ, st1, ι1, R1, PostE.from S1 q1⟩
  | false => exact ⟨ρ, st1, ι1, R1, PostE.from S1 q1⟩
theorem st_ite {c a b : Expr} {gc ga gb : Ev} {pos : Pos} (hc : PT X c (tT G C (tr gc))) (ha : PT X a (tT G C (tr ga))) (hb : PT X b (tT G C (tr gb))) : PT X (.IfExp c a b pos) (tT G C (tr (iteG gc ga gb))) := by
  refine ⟨fun pins s σ H Q I ⟨ρ, st, ι, R, q⟩ => ?_⟩
  rw [tr_iteG] at q
  refine isTrue_IfExp (thn (hc.run pins s σ H (fun k H1 => if k = true then tT G C (tr ga) σ H1 Q else tT G C (tr gb) σ H1 Q) I (tT_postT R q fun k st1 ι1 H1 e1 R1 S1 q1 => ?_)) fun k s1 ⟨H1, I1, q1⟩ => ?_)
  · cases k with
    | true => exact ⟨ρ, st1, ι1, R1, PostT.from S1 q1⟩
    | false => exact ⟨ρ, st1, ι1, R1, PostT.from S1 q1⟩
  · cases k <;> first | exact ha.run _ _ _ _ _ I1 q1 | exact hb.run _ _ _ _ _ I1 q1

/-! ### a < b < c -/
abbrev chG (f g : D → D → Option Bool) (ga gb gc : Ev) : Ev := fun ρ st => (ga ρ st).bind fun x st1 => (gb ρ st1).bind fun y st2 => (Mini.lift (f x y) st2).bind fun k st3 =>
  if k then (gc ρ st3).bind fun z st4 => Mini.lift ((g y z).map .bl) st4 else .ok (.bl false) st3
theorem se_chain {a b c : Expr} {ga gb gc : Ev} {k1 k2 k3 : Kd} {o p : CmpOp} {f g : D → D → Option Bool} {pos : Pos} (ho : OpS G X .strong (compareOp o) (fun _ x y => (f x y).map .bl)) (hp : OpS G X .strong (compareOp p) (fun _ x y => (g x y).map .bl))
    (hm : lastMarks [o, p] [b, c] = false) (ha : PE X a (tE G C k1 ga)) (hb : PE X b (tE G C k2 gb)) (hc : PE X c (tE G C k3 gc)) : PE X (.Compare a [o, p] [b, c] pos) (tE G C .strong (chG f g ga gb gc)) := by
  refine ⟨fun pins s σ H Q I ⟨ρ, st, ι, R, q⟩ => ?_⟩
  refine Compare_chain (run1 ha I R q fun x st1 v u s1 ι1 H1 e1 I1 r1 R1 S1 w1 q1 => chain_link (run1 hb I1 R1 (q1.from S1) fun y st2 v2 u2 s2 ι2 H2 e2 I2 r2 R2 S2 w2 q2 => ?_)) hm
  cases ef : f x y with
  | none => rw [ef] at q2; exact q2.elim
  | some d =>
    rw [ef] at q2
    refine thn (ho C pins s2 ρ st2 ι2 σ H2 x y (.bl d) v v2 u u2 (fun z H3 => z = .bl d ∧ Rl G.toGx C ρ st2 ι2 σ H3 ∧ StpE ι2 H2 ι2 H3) I2 r1 r2 R2 (w1.weak.mono S2) w2.weak (by dsimp only; rw [ef]; rfl) fun v3 H3 R3 S3 w3 => ⟨by cases w3; rfl, R3, S3⟩) fun c3 s3 ⟨z, H3, I3, r3, ez, R3, S3⟩ => ?_
    subst ez
    cases r3
    refine wpAny_truthy_bool ?_
    cases d with
    | false => exact ite_ff ⟨.bl false, H3, I3, rfl, (PostE.from S2 q2) _ ι2 H3 R3 S3 (.bl false)⟩
    | true =>
      refine ite_tt (chain_last (run1 hc I3 R3 (PostE.from (S2.trans S3) q2) fun z st4 v4 u4 s4 ι4 H4 e4 I4 r4 R4 S4 w4 q4 => ?_))
      have q4 : PostE G C .strong ρ ι2 σ H3 (Mini.lift ((g y z).map .bl) st4) Q := q4
      cases eg : g y z with
      | none => rw [eg] at q4; exact q4.elim
      | some e =>
        rw [eg] at q4
        exact hp C pins s4 ρ st4 ι4 σ H4 y z (.bl e) v2 v4 u2 u4 Q I4 r2 r4 R4 ((w2.weak.mono S3).mono S4) w4.weak (by dsimp only; rw [eg]; rfl) fun v5 H5 R5 S5 w5 => (PostE.from S4 q4) v5 ι4 H5 R5 S5 w5
end
end Snd
end
section
set_option maxRecDepth 100000
set_option maxHeartbeats 4000000
/-! Snd8: chains as tests, items, slices. -/
namespace Snd
open PySem PySem.Spec PyProof.Rows L2
open Mini (D Sl Xc Res SRes Ex Ar Itr Stm Tgt)
section
variable {G : Gy} {C : FCx} {X : Cx} {n : Nat} {ι ι' : List Addr} {W W' : Addr → Prop} {H H' : Hp} {ρ : Mini.Env} {st : Mini.Store} {σ : L2.St} {k : Kd}
theorem run1T {k' : Kd} {a : Expr} {ga : Ev} {pins : List (Addr × Obj)} {s : Shared} {Q : Bool → Hp → Prop} {gb : D → Mini.Store → Res Bool} (ha : PE X a (tE G C k' ga)) (I : Inv X pins σ H s) (R : Rl G.toGx C ρ st ι σ H)
    (q : PostT G C ρ ι σ H ((ga ρ st).bind gb) Q) {P : Value → Shared → Prop}
    (h : ∀ x st1 v u s1 ι1 H1, ga ρ st = .ok x st1 → Inv X pins σ H1 s1 → RelV v u → Rl G.toGx C ρ st1 ι1 σ H1 → StpE ι H ι1 H1 → ResR G.toGx k' H ι1 (Wr C ι1 ρ σ) H1 x v → PostT G C ρ ι σ H (gb x st1) Q → P u s1) :
    wpAny (model X.prog X.w) X.A (eval a X.env) P X.xe s := by
  cases e : ga ρ st with
  | stuck => rw [e] at q; exact q.elim
  | raise x st1 =>
    rw [e] at q
    refine thn (ha.run pins s σ H (fun _ _ => False) I ⟨ρ, st, ι, R, ?_⟩) fun u s1 ⟨_, _, _, _, z⟩ => z.elim
    rw [e]; exact q
  | ok x st1 =>
    rw [e] at q
    refine thn (ha.run pins s σ H (fun v H1 => ∃ ι1, Rl G.toGx C ρ st1 ι1 σ H1 ∧ StpE ι H ι1 H1 ∧ ResR G.toGx k' H ι1 (Wr C ι1 ρ σ) H1 x v) I ⟨ρ, st, ι, R, ?_⟩) fun u s1 ⟨v, H1, I1, r1, ι1, R1, S1, w1⟩ => h x st1 v u s1 ι1 H1 e I1 r1 R1 S1 w1 q
    rw [e]
    exact fun v ι1 H1 a b c => ⟨ι1, a, b, c⟩
theorem tr_chG (f g : D → D → Option Bool) (ga gb gc : Ev) (ρ : Mini.Env) (st : Mini.Store) : tr (chG f g ga gb gc) ρ st = (ga ρ st).bind fun x st1 => (gb ρ st1).bind fun y st2 => (Mini.lift (f x y) st2).bind fun k st3 =>
    if k then (gc ρ st3).bind fun z st4 => Mini.lift (g y z) st4 else .ok false st3 := by
  show (chG f g ga gb gc ρ st).bind _ = _
  unfold chG
  cases ga ρ st with
  | raise x st1 => rfl
  | stuck => rfl
  | ok x st1 =>
    simp only [bind_ok]
    cases gb ρ st1 with
    | raise x st1 => rfl
    | stuck => rfl
    | ok y st2 =>
      simp only [bind_ok]
      cases f x y with
      | none => rfl
      | some k =>
        cases k with
        | false => rfl
        | true =>
          show (((gc ρ st2).bind fun z st4 => Mini.lift ((g y z).map D.bl) st4).bind fun x st1 => Mini.lift (Mini.truth x) st1) = (gc ρ st2).bind fun z st4 => Mini.lift (g y z) st4
          cases gc ρ st2 with
          | raise x st1 => rfl
          | stuck => rfl
          | ok z st4 =>
            simp only [bind_ok]
            cases g y z <;> rfl
theorem st_chain {a b c : Expr} {ga gb gc : Ev} {k1 k2 k3 : Kd} {o p : CmpOp} {f g : D → D → Option Bool} {pos : Pos} (ho : OpS G X .strong (compareOp o) (fun _ x y => (f x y).map .bl)) (hp : OpS G X .strong (compareOp p) (fun _ x y => (g x y).map .bl))
    (hm : lastMarks [o, p] [b, c] = false) (ha : PE X a (tE G C k1 ga)) (hb : PE X b (tE G C k2 gb)) (hc : PE X c (tE G C k3 gc)) : PT X (.Compare a [o, p] [b, c] pos) (tT G C (tr (chG f g ga gb gc))) := by
  refine ⟨fun pins s σ H Q I ⟨ρ, st, ι, R, q⟩ => ?_⟩
  rw [tr_chG] at q
  refine isTrue_chain (run1T ha I R q fun x st1 v u s1 ι1 H1 e1 I1 r1 R1 S1 w1 q1 => test_link (run1T hb I1 R1 (q1.from S1) fun y st2 v2 u2 s2 ι2 H2 e2 I2 r2 R2 S2 w2 q2 => ?_)) hm
  cases ef : f x y with
  | none => rw [ef] at q2; exact q2.elim
  | some d =>
    rw [ef] at q2
    refine thn (ho C pins s2 ρ st2 ι2 σ H2 x y (.bl d) v v2 u u2 (fun z H3 => z = .bl d ∧ Rl G.toGx C ρ st2 ι2 σ H3 ∧ StpE ι2 H2 ι2 H3) I2 r1 r2 R2 (w1.weak.mono S2) w2.weak (by dsimp only; rw [ef]; rfl) fun v3 H3 R3 S3 w3 => ⟨by cases w3; rfl, R3, S3⟩) fun c3 s3 ⟨z, H3, I3, r3, ez, R3, S3⟩ => ?_
    subst ez
    cases r3
    refine wpAny_truthy_bool ?_
    cases d with
    | false => exact ite_ff ⟨H3, I3, (PostT.from S2 q2) ι2 H3 R3 S3⟩
    | true =>
      refine ite_tt (test_last (run1T hc I3 R3 (PostT.from (S2.trans S3) q2) fun z st4 v4 u4 s4 ι4 H4 e4 I4 r4 R4 S4 w4 q4 => ?_))
      have q4 : PostT G C ρ ι2 σ H3 (Mini.lift (g y z) st4) Q := q4
      cases eg : g y z with
      | none => rw [eg] at q4; exact q4.elim
      | some e =>
        rw [eg] at q4
        refine thn (hp C pins s4 ρ st4 ι4 σ H4 y z (.bl e) v2 v4 u2 u4 (fun z H5 => z = .bl e ∧ Rl G.toGx C ρ st4 ι4 σ H5 ∧ StpE ι4 H4 ι4 H5) I4 r2 r4 R4 ((w2.weak.mono S3).mono S4) w4.weak (by dsimp only; rw [eg]; rfl) fun v5 H5 R5 S5 w5 => ⟨by cases w5; rfl, R5, S5⟩) fun c5 s5 ⟨z5, H5, I5, r5, ez5, R5, S5⟩ => ?_
        subst ez5
        cases r5
        exact wpAny_truthy_bool ⟨H5, I5, (PostT.from S4 q4) ι4 H5 R5 S5⟩

/-! ### items -/
theorem ixN_eq (m : Nat) (i : Int) : Mini.ixN m i = L2.ixN m i := rfl
theorem idx_inv {st : Mini.Store} {x y d : D} (h : Mini.idxD st x y = some d) :
    (∃ xs i k, x = .lst xs ∧ y = .int i ∧ Mini.ixN xs.length i = some k ∧ xs[k]? = some d) ∨ (∃ xs i k, x = .tup xs ∧ y = .int i ∧ Mini.ixN xs.length i = some k ∧ xs[k]? = some d) ∨
    (∃ s i k c, x = .str s ∧ y = .int i ∧ Mini.ixN s.length i = some k ∧ s[k]? = some c ∧ d = .str [c]) ∨ (∃ m xs i k, x = .cell m ∧ y = .int i ∧ st[m]? = some xs ∧ Mini.ixN xs.length i = some k ∧ xs[k]? = some d) := by
  cases x <;> cases y <;> first | (exact absurd (show (none : Option D) = some d from h) (by simp)) | skip
  · rename_i s i
    obtain ⟨k, h1, h2⟩ := Option.bind_eq_some_iff.mp (show (Mini.ixN s.length i).bind (fun k => (s[k]?).map fun c => D.str [c]) = some d from h)
    obtain ⟨c, h3, h4⟩ := Option.map_eq_some_iff.mp h2
    exact .inr (.inr (.inl ⟨s, i, k, c, rfl, rfl, h1, h3, h4.symm⟩))
  · rename_i s i
    obtain ⟨k, h1, h2⟩ := Option.bind_eq_some_iff.mp (show (Mini.ixN s.length i).bind (fun k => s[k]?) = some d from h)
    exact .inr (.inl ⟨s, i, k, rfl, rfl, h1, h2⟩)
  · rename_i s i
    obtain ⟨k, h1, h2⟩ := Option.bind_eq_some_iff.mp (show (Mini.ixN s.length i).bind (fun k => s[k]?) = some d from h)
    exact .inl ⟨s, i, k, rfl, rfl, h1, h2⟩
  · rename_i m i
    obtain ⟨xs, h0, h1⟩ := Option.bind_eq_some_iff.mp (show (st[m]?).bind (fun xs => (Mini.ixN xs.length i).bind fun k => xs[k]?) = some d from h)
    obtain ⟨k, h1, h2⟩ := Option.bind_eq_some_iff.mp h1
    exact .inr (.inr (.inr ⟨m, xs, i, k, rfl, rfl, h0, h1, h2⟩))
theorem atI_of {α : Type} {xs : List α} {m : Nat} {i : Int} {k : Nat} {v : α} (hm : xs.length = m) (h : Mini.ixN m i = some k) (e : xs[k]? = some v) : atI xs i = some v := by
  unfold atI
  rw [hm, ← ixN_eq, h]
  exact e
theorem RpW.cell {m : Nat} {v : V} (h : RpW G.toGx ι W H (.cell m) v) : ∃ a, v = .ref a ∧ ι[m]? = some a := by
  rcases h with h | ⟨a, na, e, h⟩
  · cases h with | cell h => exact ⟨_, rfl, h⟩
  · exact h.elim
/-- x[i] -/
theorem se_idx {a b : Expr} {ga gb : Ev} {k1 k2 : Kd} {pos : Pos} (hX : XOk G X n) (ha : PE X a (tE G C k1 ga)) (hb : PE X b (tE G C k2 gb)) (hs : PlainIx b) :
    PE X (.Subscript a b pos) (tE G C .strong fun ρ st => (ga ρ st).bind fun x st1 => (gb ρ st1).bind fun y st2 => Mini.lift (Mini.idxD st2 x y) st2) := by
  refine peMono (pe_ix ix_seq ha hb hs) fun σ H Q ⟨ρ, st, ι, R, q⟩ => tE_post R q fun x st1 v ι1 H1 e1 R1 S1 w1 q1 => ?_
  refine tE_post R1 (q1.from S1) fun y st2 v2 ι2 H2 e2 R2 S2 w2 q2 => ?_
  have w1 := w1.weak.mono S2
  have w2 := w2.weak
  cases eo : Mini.idxD st2 x y with
  | none => rw [eo] at q2; exact q2.elim
  | some d =>
    rw [eo] at q2
    have q3 : ∀ v3, Rp G.toGx ι2 (Wr C ι2 ρ σ) H2 d v3 → Q v3 H2 := fun v3 r3 => (PostE.from S2 q2) v3 ι2 H2 R2 StpE.refl r3
    rcases idx_inv eo with ⟨xs, i, k, rfl, rfl, hk, hd⟩ | ⟨xs, i, k, rfl, rfl, hk, hd⟩ | ⟨s, i, k, c, rfl, rfl, hk, hc, rfl⟩ | ⟨m, xs, i, k, rfl, rfl, hm, hk, hd⟩
    · obtain ⟨p, vs, rfl, hq, hr⟩ := w1.lst
      rw [← hX.k] at hq
      obtain ⟨v3, h3, r3⟩ := hr.get hd
      exact .inl ⟨p, vs, i, v3, rfl, w2.int, hq, atI_of hr.length.symm hk h3, q3 v3 r3⟩
    · obtain ⟨p, vs, rfl, hq, hr⟩ := w1.tup
      have hq := hq.q
      rw [← hX.k] at hq
      obtain ⟨v3, h3, r3⟩ := hr.get hd
      exact .inr (.inl ⟨p, vs, i, v3, rfl, w2.int, hq, atI_of hr.length.symm hk h3, q3 v3 r3⟩)
    · obtain ⟨rfl, h1, h2⟩ := w1.str
      refine .inr (.inr ⟨_, i, c, rfl, w2.int, by rw [sS_length]; exact h2, ?_, q3 (.str (sS [c])) (.str [c] (fun c' hc' => ?_) (by rw [sizeLine_eq]; exact Nat.le_of_ble_eq_true rfl))⟩)
      · rw [sS_cps]
        exact atI_of rfl hk hc
      · rw [List.mem_singleton.mp hc']
        exact h1 c (List.mem_of_getElem? hc)
    · obtain ⟨p, rfl, hp⟩ := w1.cell
      obtain ⟨p', vs, e', hH, hr⟩ := R2.sto.at_ m xs hm
      rw [hp] at e'
      cases e'
      obtain ⟨v3, h3, r3⟩ := hr.get hd
      exact .inl ⟨p, vs, i, v3, rfl, w2.int, SqL.of hH, atI_of hr.length.symm hk h3, q3 v3 r3⟩
end
end Snd
end
section
set_option maxRecDepth 100000
set_option maxHeartbeats 4000000
/-! Snd9: slices, and things reversed. -/
namespace Snd
open PySem PySem.Spec PyProof.Rows L2
open Mini (D Sl Xc Res SRes Ex Ar Itr Stm Tgt)
/-! ### t[::-1] of a tuple -/
section
variable {prog : Program} {w : World} {A : Around} {E : Value → Shared → Prop} {s : Shared}
theorem back_places (m : Nat) : Builtin.Slice.slicePlaces ((m : Int) - 1) (-1) (-1) = m := by
  delta Builtin.Slice.slicePlaces
  rw [if_neg (by decide)]
  by_cases h : (m : Int) - 1 > -1
  · rw [if_pos h, show (-(-1) : Int) = 1 by decide, Int.ediv_one]
    omega
  · rw [if_neg h]
    omega
theorem back_pick (xs : Array Value) : ((List.range xs.size).filterMap fun (k : Nat) => xs[(((xs.size : Int) - 1) + (k : Int) * (-1)).toNat]?).toArray = xs.toList.reverse.toArray := by
  have e := PySem.W.krv_pick xs
  unfold slicePick at e
  rw [PySem.W.krv_bounds] at e
  have e2 : ((sliceRange ((xs.size : Int) - 1) (-1) (-1)).filterMap (xs[·]?)).toArray = xs.toList.reverse.toArray := e
  rw [PySem.W.krv_sliceRange, List.filterMap_map] at e2
  rw [← e2]
  congr 1
  have key : ∀ (l : List Nat), (∀ k ∈ l, k < xs.size) → l.filterMap (fun (k : Nat) => xs[(((xs.size : Int) - 1) + (k : Int) * (-1)).toNat]?) = l.filterMap ((fun x => xs[x]?) ∘ fun k => xs.size - 1 - k) := by
    intro l
    induction l with
    | nil => intro _; rfl
    | cons a l ih =>
      intro hl
      have ha := hl a List.mem_cons_self
      have e : (((xs.size : Int) - 1) + (a : Int) * (-1)).toNat = xs.size - 1 - a := by omega
      rw [List.filterMap_cons, List.filterMap_cons, ih fun k hk => hl k (List.mem_cons_of_mem _ hk), e]
      rfl
  exact key _ fun k hk => List.mem_range.mp hk
/-- tuple.__getitem__ of a slice that goes back from the end -/
theorem back_meets (t sl : Addr) (items : Array Value) (n : Nat) (u : Tok) (dd d2 : Option Addr) (s1 s2 : Array (Option Value)) (hz : items.size ≤ sizeLine) :
    Meets (Builtin.«tuple.__getitem__» ⟨[.ref t, .ref sl], []⟩) (fun _ R s => (s.heap.get? t = some ⟨.type "tuple", dd, .seq items n, s1⟩ ∧ s.heap.get? sl = some ⟨.type "slice", d2, .fields #[.none, .none, .int (-1) u], s2⟩) ∧
      R (.ok (.ret (.ref s.heap.objs.size))) { s with heap := s.heap.push { cls := .type "tuple", data := .seq items.toList.reverse.toArray } }) :=
  .of_wp fun P w A R s h => by
    obtain ⟨hp, gs, dr, tk, ost⟩ := s
    obtain ⟨⟨gt, gsl⟩, hR⟩ := h
    have isIx := AutoSeq1.idx_int
    have part : ∀ {A : Around} {E : Value → Shared → Prop} {Q : Int × Int × Nat → Shared → Prop}, Q ((items.size : Int) - 1, -1, items.size) ⟨hp, gs, dr, tk, ost⟩ → wpAny (model P w) A (Builtin.Slice.sliceApplied (.ref sl) (pure (items.size : Int))) Q E ⟨hp, gs, dr, tk, ost⟩ := by
      intro A E Q q
      delta Builtin.Slice.sliceApplied Builtin.Slice.sliceFields
      wp_walk using AutoSeq1.wpAny_loadPart' gsl
      have e := back_places items.size
      show Q ((items.size : Int) - 1, -1, Builtin.Slice.slicePlaces ((items.size : Int) - 1) (-1) (-1)) _
      rw [e]
      exact q
    wp_walk using AutoSeq1.wpAny_loadPart' gt, AutoSeq1.wpAny_loadPart' gsl, part
    rw [back_pick, if_neg (by rw [List.size_toArray, List.length_reverse]; exact Nat.not_lt.mpr hz)]
    wp_walk using AutoSeq1.wpAny_loadPart' gt
    exact ⟨_, rfl, hR⟩
end
section
variable {G : Gy} {C : FCx} {X : Cx} {n : Nat} {ι ι' : List Addr} {W W' : Addr → Prop} {H H' : Hp} {ρ : Mini.Env} {st : Mini.Store} {σ : L2.St} {k : Kd} {pins : List (Addr × Obj)} {s : Shared}
/-- the slice object of [::-1] -/
theorem key_back {j : Nat} {p1 p2 p3 : Pos} {P : Value → Shared → Prop} (I : Inv X pins σ H s)
    (h : ∀ u s1, Inv X pins σ H s1 → s1.heap.IsSliceOf (s1.heap.objs.size - 1) .none .none (.int (-1) u) → P (.ref (s1.heap.objs.size - 1)) s1) :
    wpAny (model X.prog X.w) X.A (eval (.Slice none none (some (.UnaryOp .USub (.Constant (.int 1) j p1) p2)) p3) X.env) P X.xe s := by
  refine wpAny_Slice (wpAny_pure (wpAny_pure ?_))
  have one : PE X (.UnaryOp .USub (.Constant (.int 1) j p1) p2) (tUn (rU fun i => .int (-i)) (tC (.int 1))) := pe_un un_neg pe_int
  refine thn (one.run pins s σ H (fun x H1 => x = .int (-1) ∧ H1 = H) I ⟨1, rfl, rfl, rfl⟩) ?_
  rintro v s1 ⟨_, _, I1, rel, rfl, eH⟩
  rw [eH] at I1
  obtain ⟨u, rfl⟩ := rel
  have size := Heap.size_push s1.heap { cls := .type "slice", data := .fields #[Value.none, .none, .int (-1) u] }
  have J : Inv X pins σ H { s1 with heap := s1.heap.push { cls := .type "slice", data := .fields #[Value.none, .none, .int (-1) u] } } := I1.kept (t' := s1.toks) fun _ _ e => Heap.get?_push_of_some _ e
  have q := h u _ J
  rw [show ({ s1 with heap := s1.heap.push { cls := .type "slice", data := .fields #[Value.none, .none, .int (-1) u] } } : Shared).heap.objs.size - 1 = s1.heap.objs.size by show (s1.heap.push _).objs.size - 1 = _; rw [size]; rfl] at q
  exact q (Heap.IsSliceOf.new ..)
theorem list_back {a sl : Addr} {u : Tok} {xs : List V} {Q : VK} (I : Inv X pins σ H s) (hs : s.heap.IsSliceOf sl .none .none (.int (-1) u)) (hx : SqL X.K H a xs) (q : ∀ p, H p = none → Q (.ref p) (upd H p (.lst xs.reverse))) :
    ItemOn (model X.prog X.w) X.A X.xe (.ref a) (.ref sl) (EP X pins σ Q) s := by
  obtain ⟨us, r, pl, hz⟩ := I.list hx
  have typed := pl.isList.typeIs
  refine ⟨"list", _, slot_list_getitem.lookup, typed, ?_⟩
  have J := I.lnew (t' := s.toks) r.reverse (by rw [List.length_reverse]; exact hz)
  refine wpAny_getItem_list_slice pl.isList hs .none .none (.int (-1) u) (by decide) ?_ (by rw [List.size_toArray, ← r.length]; exact hz)
  rw [PySem.W.krv_pick]
  exact ⟨.ref s.heap.objs.size, _, J, rfl, q _ I.fresh⟩
theorem tuple_back {a sl : Addr} {u : Tok} {xs : List V} {Q : VK} (I : Inv X pins σ H s) (hs : s.heap.IsSliceOf sl .none .none (.int (-1) u)) (hx : SqT X.K H a xs) (q : ∀ p, H p = none → Q (.ref p) (upd H p (.tup xs.reverse))) :
    ItemOn (model X.prog X.w) X.A X.xe (.ref a) (.ref sl) (EP X pins σ Q) s := by
  obtain ⟨us, r, ⟨⟨c1, dd, dt, sl1⟩, ho, hc, n, hd⟩, hz⟩ := I.tuple hx
  obtain ⟨⟨c2, d2, dt2, sl2⟩, hos, hcs, hds⟩ := hs
  cases hc; cases hd; cases hcs; cases hds
  refine ⟨"tuple", _, PySem.F.slot_tuple_getitem.lookup, ⟨_, ho, rfl⟩, ?_⟩
  have J := I.laid (t' := s.toks) (o := .tup xs.reverse) (h' := s.heap.push { cls := .type "tuple", data := .seq us.toArray.toList.reverse.toArray }) (fun _ _ e => Heap.get?_push_of_some _ e) (Nat.le_refl _) ⟨by rw [List.length_reverse]; exact hz, us.reverse, r.reverse, IsTup.new _ _⟩
  exact getItem_meets ⟨_, ho, rfl⟩ (by decide) PySem.F.slot_tuple_getitem PySem.F.entry_tuple_getitem (PySem.F.args_tuple_getitem_2 _ _) (back_meets a sl us.toArray n u dd d2 sl1 sl2 (by rw [List.size_toArray, ← r.length]; exact hz))
    ⟨⟨ho, hos⟩, .ref s.heap.objs.size, _, J, rfl, q _ I.fresh⟩
theorem Vals.rev' {xs : List V} {us : List Value} (h : Vals xs us) : Vals xs.reverse us.reverse := h.reverse
/-- x[::-1], a list or a tuple -/
theorem pe_back {e : Expr} {te : TE} {j : Nat} {p1 p2 p3 pos : Pos} (he : PE X e te) : PE X (.Subscript e (.Slice none none (some (.UnaryOp .USub (.Constant (.int 1) j p1) p2)) p3) pos)
    (fun σ H Q => te σ H fun x H1 => ∃ a xs, x = .ref a ∧ ((SqL X.K H1 a xs ∧ ∀ p, H1 p = none → Q (.ref p) (upd H1 p (.lst xs.reverse))) ∨ (SqT X.K H1 a xs ∧ ∀ p, H1 p = none → Q (.ref p) (upd H1 p (.tup xs.reverse))))) := by
  constructor
  intro pins s σ H Q I want
  refine Subscript_ (wpAny_mono (he.run pins s σ H _ I want) ?_ fun _ _ z => z)
  rintro v s1 ⟨_, H1, I1, rv, a, xs, rfl, seq⟩
  cases rv
  refine key_back I1 fun u s2 I2 hs => ?_
  have on : ItemOn (model X.prog X.w) X.A X.xe (.ref a) (.ref (s2.heap.objs.size - 1)) (EP X pins σ Q) s2 := by
    rcases seq with ⟨hx, q⟩ | ⟨hx, q⟩
    · exact list_back I2 hs hx q
    · exact tuple_back I2 hs hx q
  obtain ⟨T, id, l, ty, g⟩ := on
  exact tail_any (ops := [.ref a, .ref (s2.heap.objs.size - 1)]) ty l g (by with_unfolding_all rfl)
theorem rev_inv {x d : D} (h : Mini.revD x = some d) : (∃ xs, x = .lst xs ∧ d = .lst xs.reverse) ∨ (∃ xs, x = .tup xs ∧ d = .tup xs.reverse) := by
  cases x <;> first | (exact absurd (show (none : Option D) = some d from h) (by simp)) | skip
  · exact .inr ⟨_, rfl, (Option.some.inj h).symm⟩
  · exact .inl ⟨_, rfl, (Option.some.inj h).symm⟩
theorem se_rev {e : Expr} {g : Ev} {k' : Kd} {j : Nat} {p1 p2 p3 pos : Pos} (hX : XOk G X n) (h : PE X e (tE G C k' g)) : PE X (.Subscript e (.Slice none none (some (.UnaryOp .USub (.Constant (.int 1) j p1) p2)) p3) pos)
    (tE G C .fresh fun ρ st => (g ρ st).bind fun x st1 => Mini.lift (Mini.revD x) st1) := by
  refine peMono (pe_back h) fun σ H Q ⟨ρ, st, ι, R, q⟩ => tE_post R q fun x st1 v ι1 H1 e1 R1 S1 w1 q1 => ?_
  cases hd : Mini.revD x with
  | none => rw [hd] at q1; exact q1.elim
  | some d =>
    rw [hd] at q1
    rcases rev_inv hd with ⟨xs, rfl, rfl⟩ | ⟨xs, rfl, rfl⟩
    · obtain ⟨a, vs, rfl, hq, hr⟩ := w1.weak.lst
      rw [← hX.k] at hq
      exact ⟨a, vs, rfl, .inl ⟨hq, fun p hp => (PostE.from S1 q1) _ ι1 _ (R1.new hp).1 (R1.new hp).2 (R1.newLst hp hr.rev)⟩⟩
    · obtain ⟨a, vs, rfl, hq, hr⟩ := w1.weak.tup
      have hq := hq.q
      rw [← hX.k] at hq
      exact ⟨a, vs, rfl, .inr ⟨hq, fun p hp => (PostE.from S1 q1) _ ι1 _ (R1.new hp).1 (R1.new hp).2 ⟨R1.newTup hp hr.rev, fun z => z.elim⟩⟩⟩

/-! ### x[a:b] -/
def PostO (G : Gy) (C : FCx) (ρ : Mini.Env) (ι : List Addr) (σ : L2.St) (H : Hp) (r : Res (Option Int)) (Q : Option Int → Hp → Prop) : Prop := match r with
  | .ok d st' => ∀ ι' H', Rl G.toGx C ρ st' ι' σ H' → StpE ι H ι' H' → Q d H'
  | .raise x st' => ∀ cls dx ι' H', Rl G.toGx C ρ st' ι' σ H' → ExcR G.ex H' x cls dx → C.EE cls dx H'
  | .stuck => False
def tO (G : Gy) (C : FCx) (g : Mini.Env → Mini.Store → Res (Option Int)) : TO := fun σ H Q => ∃ ρ st ι, Rl G.toGx C ρ st ι σ H ∧ PostO G C ρ ι σ H (g ρ st) Q
theorem so_none : PO X none (tO G C fun _ st => .ok none st) := ⟨fun pins s σ H Q I ⟨ρ, st, ι, R, q⟩ => po_none.run pins s σ H Q I (q ι H R StpE.refl)⟩
theorem intO_inv {d : D} {o : Option Int} (h : Mini.intO d = some o) : ∃ i, d = .int i ∧ o = some i := by
  cases d <;> first | (exact absurd (show (none : Option (Option Int)) = some o from h) (by simp)) | exact ⟨_, rfl, (Option.some.inj h).symm⟩
theorem so_some {e : Expr} {g : Ev} {k' : Kd} (h : PE X e (tE G C k' g)) : PO X (some e) (tO G C fun ρ st => (g ρ st).bind fun d st1 => Mini.lift (Mini.intO d) st1) := by
  refine ⟨fun pins s σ H Q I ⟨ρ, st, ι, R, q⟩ => (po_some h).run pins s σ H Q I ⟨ρ, st, ι, R, ?_⟩⟩
  have q : PostO G C ρ ι σ H ((g ρ st).bind fun d st1 => Mini.lift (Mini.intO d) st1) Q := q
  show PostE G C k' ρ ι σ H (g ρ st) _
  cases e1 : g ρ st with
  | raise x st1 => rw [e1] at q; exact q
  | stuck => rw [e1] at q; exact q
  | ok x st1 =>
    rw [e1] at q
    have q : PostO G C ρ ι σ H (Mini.lift (Mini.intO x) st1) Q := q
    intro v ι1 H1 R1 S1 w1
    cases hi : Mini.intO x with
    | none => rw [hi] at q; exact q.elim
    | some o =>
      rw [hi] at q
      obtain ⟨i, rfl, rfl⟩ := intO_inv hi
      exact ⟨i, w1.weak.int, q ι1 H1 R1 S1⟩
theorem tO_post {ga : Mini.Env → Mini.Store → Res (Option Int)} {Q : VK} {Q' : Option Int → Hp → Prop} {gb : Option Int → Mini.Store → Res D} (R : Rl G.toGx C ρ st ι σ H) (q : PostE G C k ρ ι σ H ((ga ρ st).bind gb) Q)
    (h : ∀ x st1 ι1 H1, ga ρ st = .ok x st1 → Rl G.toGx C ρ st1 ι1 σ H1 → StpE ι H ι1 H1 → PostE G C k ρ ι σ H (gb x st1) Q → Q' x H1) : tO G C ga σ H Q' := by
  refine ⟨ρ, st, ι, R, ?_⟩
  cases e : ga ρ st with
  | ok ds st1 => rw [e] at q; exact fun ι1 H1 a b => h ds st1 ι1 H1 e a b q
  | raise x st1 => rw [e] at q; exact q
  | stuck => rw [e] at q; exact q
theorem cut_eq {α : Type} (xs : List α) (lo hi : Option Int) : Mini.cut xs lo hi = (xs.drop (HT.sIx xs.length 0 lo)).take (HT.sIx xs.length xs.length hi - HT.sIx xs.length 0 lo) := by
  cases lo <;> cases hi <;> exact List.drop_take ..
theorem Rps.cut {G : Gx} {ds : List D} {vs : List V} (lo hi : Option Int) (h : Rps G ι W H ds vs) : Rps G ι W H (Mini.cut ds lo hi) (cutV vs lo hi) := by
  rw [cut_eq]
  unfold cutV
  rw [← h.length]
  exact (h.drop _).take _
theorem mem_cut {α : Type} {xs : List α} {lo hi : Option Int} {c : α} (h : c ∈ Mini.cut xs lo hi) : c ∈ xs := List.mem_of_mem_take (List.mem_of_mem_drop h)
theorem cut_len {α : Type} (xs : List α) (lo hi : Option Int) : (Mini.cut xs lo hi).length ≤ xs.length := by
  rw [cut_eq, List.length_take, List.length_drop]
  omega
theorem cut_whole {α : Type} (xs : List α) {lo hi : Option Int} (h : HT.sIx xs.length 0 lo = 0 ∧ HT.sIx xs.length xs.length hi = xs.length) : Mini.cut xs lo hi = xs := by
  rw [cut_eq, h.1, h.2]
  simp
theorem slice_inv {x d : D} {lo hi : Option Int} (h : Mini.sliceD x lo hi = some d) : (∃ xs, x = .lst xs ∧ d = .lst (Mini.cut xs lo hi)) ∨ (∃ xs, x = .tup xs ∧ d = .tup (Mini.cut xs lo hi)) ∨ (∃ s, x = .str s ∧ d = .str (Mini.cut s lo hi)) := by
  cases x <;> first | (exact absurd (show (none : Option D) = some d from h) (by simp)) | skip
  · exact .inr (.inr ⟨_, rfl, (Option.some.inj h).symm⟩)
  · exact .inr (.inl ⟨_, rfl, (Option.some.inj h).symm⟩)
  · exact .inl ⟨_, rfl, (Option.some.inj h).symm⟩
theorem se_slice {a : Expr} {lo hi : Option Expr} {ga : Ev} {gl gh : Mini.Env → Mini.Store → Res (Option Int)} {k1 : Kd} {p2 pos : Pos} (hX : XOk G X n) (ha : PE X a (tE G C k1 ga)) (hl : PO X lo (tO G C gl)) (hh : PO X hi (tO G C gh)) :
    PE X (.Subscript a (.Slice lo hi none p2) pos) (tE G C .fresh fun ρ st => (ga ρ st).bind fun x st1 => (gl ρ st1).bind fun l st2 => (gh ρ st2).bind fun h st3 => Mini.lift (Mini.sliceD x l h) st3) := by
  refine peMono (pe_slice ((sl_list (X := X)).or ((sl_tupA (X := X)).or sl_str)) ha hl hh) fun σ H Q ⟨ρ, st, ι, R, q⟩ => tE_post R q fun x st1 v ι1 H1 e1 R1 S1 w1 q1 => ?_
  refine tO_post R1 (q1.from S1) fun lo st2 ι2 H2 e2 R2 S2 q2 => tO_post R2 (q2.from S2) fun hi st3 ι3 H3 e3 R3 S3 q3 => ?_
  have w := (w1.weak.mono S2).mono S3
  have q4 := q3.from S3
  cases hd : Mini.sliceD x lo hi with
  | none => rw [hd] at q4; exact q4.elim
  | some d =>
    rw [hd] at q4
    rcases slice_inv hd with ⟨xs, rfl, rfl⟩ | ⟨xs, rfl, rfl⟩ | ⟨s, rfl, rfl⟩
    · obtain ⟨p, vs, rfl, hq, hr⟩ := w.lst
      rw [← hX.k] at hq
      exact .inl ⟨p, vs, rfl, hq, fun p hp => q4 _ ι3 _ (R3.new hp).1 (R3.new hp).2 (R3.newLst hp (hr.cut lo hi))⟩
    · obtain ⟨p, vs, rfl, hs, hr⟩ := w.tup
      have hq := hs.q
      rw [← hX.k] at hq
      refine .inr (.inl ⟨p, vs, rfl, hq, fun hw => ?_, fun _ p hp => q4 _ ι3 _ (R3.new hp).1 (R3.new hp).2 ⟨R3.newTup hp (hr.cut lo hi), fun z => z.elim⟩⟩)
      have e : Mini.cut xs lo hi = xs := cut_whole xs (by rw [hr.length]; exact hw)
      rw [e] at q4
      exact q4 _ ι3 _ R3 StpE.refl ⟨.tup hs hr, fun z => z.elim⟩
    · obtain ⟨rfl, h1, h2⟩ := w.str
      refine .inr (.inr ⟨_, rfl, by rw [sS_length]; exact h2, ?_⟩)
      have e : cutS (sS s) lo hi = sS (Mini.cut s lo hi) := by
        unfold cutS
        rw [sS_cps, sS_length, ← cut_eq]
        rfl
      rw [e]
      exact q4 _ ι3 _ R3 StpE.refl (strV (fun c hc => h1 c (mem_cut hc)) (Nat.le_trans (cut_len _ _ _) h2))
end
end Snd
end
section
set_option maxRecDepth 100000
set_option maxHeartbeats 4000000
/-! Snd10: calls of built-in functions and types. -/
namespace Snd
open PySem PySem.Spec PyProof.Rows L2
open Mini (D Sl Xc Res SRes Ex Ar Itr Stm Tgt)
section
variable (G : Gy)
/-- a function of one value -/
def PrS (X : Cx) (k : Kd) (f : Value) (op : D → Option D) : Prop :=
  ∀ (C : FCx) (pins : List (Addr × Obj)) (s : Shared) (ρ : Mini.Env) (st : Mini.Store) (ι : List Addr) (σ : L2.St) (H : Hp) (x d : D) (v : V) (u : Value) (Q : VK),
    Inv X pins σ H s → RelV v u → Rl G.toGx C ρ st ι σ H → RpW G.toGx ι (Wr C ι ρ σ) H x v → op x = some d →
    (∀ v' H', Rl G.toGx C ρ st ι σ H' → StpE ι H ι H' → ResR G.toGx k H ι (Wr C ι ρ σ) H' d v' → Q v' H') →
    wpAny (model X.prog X.w) X.A (call f [u]) (EP X pins σ Q) X.xe s
end
section
variable {G : Gy} {C : FCx} {X : Cx} {n : Nat} {ι ι' : List Addr} {W W' : Addr → Prop} {H H' : Hp} {ρ : Mini.Env} {st : Mini.Store} {σ : L2.St} {k : Kd}
theorem prs_of {f : Value} {op : D → Option D} {r : List V → Hp → VK → Prop} (h : CallR X f r)
    (hr : ∀ (C : FCx) (ρ : Mini.Env) (st : Mini.Store) (ι : List Addr) (σ : L2.St) (H : Hp) (x d : D) (v : V) (Q : VK), Rl G.toGx C ρ st ι σ H → RpW G.toGx ι (Wr C ι ρ σ) H x v → op x = some d →
      (∀ v' H', Rl G.toGx C ρ st ι σ H' → StpE ι H ι H' → ResR G.toGx k H ι (Wr C ι ρ σ) H' d v' → Q v' H') → r [v] H Q) : PrS G X k f op :=
  fun C pins s ρ st ι σ H x d v u Q I r1 R w e q => h pins s σ H [v] [u] Q I (.cons r1 .nil) (hr C ρ st ι σ H x d v Q R w e q)
theorem PrS.or {f : Value} {op op' : D → Option D} (h : PrS G X k f op) (h' : PrS G X k f op') : PrS G X k f (fun x => (op x).or (op' x)) := by
  intro C pins s ρ st ι σ H x d v u Q I r1 R w e q
  have e : (op x).or (op' x) = some d := e
  cases h1 : op x with
  | some d' =>
    rw [h1] at e
    cases e
    exact h C pins s ρ st ι σ H x _ v u Q I r1 R w h1 q
  | none =>
    rw [h1] at e
    exact h' C pins s ρ st ι σ H x d v u Q I r1 R w e q
theorem PrS.weaker {f : Value} {op op' : D → Option D} (h : PrS G X k f op) (e : ∀ x d, op' x = some d → op x = some d) : PrS G X k f op' :=
  fun C pins s ρ st ι σ H x d v u Q I r1 R w eo q => h C pins s ρ st ι σ H x d v u Q I r1 R w (e x d eo) q
theorem PrS.toStrong {f : Value} {op : D → Option D} (h : PrS G X .fresh f op) : PrS G X .strong f op :=
  fun C pins s ρ st ι σ H x d v u Q I r1 R w eo q => h C pins s ρ st ι σ H x d v u Q I r1 R w eo fun v' H' R' S' w' => q v' H' R' S' w'.1
/-- the arguments' reading, one -/
theorem run_prim {k1 : Kd} {e : Expr} {g : Ev} {f : Value} {op : D → Option D} {pos : Pos} {pins : List (Addr × Obj)} {s : Shared} {Q : VK} (hp : PrS G X k f op) (hk : k ≠ .weak) (ns : NoStar e) (he : PE X e (tE G C k1 g)) (I : Inv X pins σ H s)
    (h : tE G C k (fun ρ st => (g ρ st).bind fun d st1 => Mini.lift (op d) st1) σ H Q) {P : List Value → Shared → Prop} (hP : ∀ us s1, wpAny (model X.prog X.w) X.A (call f us) (EP X pins σ Q) X.xe s1 → P us s1) :
    wpAny (model X.prog X.w) X.A (spliced (backTo pos (starEach [e] X.env))) P X.xe s := by
  obtain ⟨ρ, st, ι, R, q⟩ := h
  refine thn ((pa_cons he pa_nil (star_cons ns [] X.env)).run pos pins s σ H (fun vs H1 => ∃ v x st1 ι1 d, vs = [v] ∧ Rl G.toGx C ρ st1 ι1 σ H1 ∧ RpW G.toGx ι1 (Wr C ι1 ρ σ) H1 x v ∧ op x = some d ∧ PostE G C k ρ ι1 σ H1 (.ok d st1) Q) I
    (tE_post R q fun x st1 v ι1 H1 e1 R1 S1 w1 q1 => ?_)) fun us s1 ⟨vs, H1, I1, r1, v, x, st1, ι1, d, ev, R1, w1, eo, q1⟩ => hP us s1 ?_
  · cases eo : op x with
    | none => rw [eo] at q1; exact q1.elim
    | some d =>
      rw [eo] at q1
      exact ⟨v, x, st1, ι1, d, rfl, R1, w1.weak, eo, PostE.from S1 q1 hk⟩
  · subst ev
    obtain ⟨u, rfl, r2⟩ := vals1 r1
    exact hp C pins s1 ρ st1 ι1 σ H1 x d v u Q I1 r2 R1 w1 eo fun v' H' R' S' w' => q1 v' ι1 H' R' S' w'
theorem se_primB {k1 : Kd} {e : Expr} {g : Ev} {id : String} {x : Str} {op : D → Option D} {p pos : Pos} (hp : PrS G X k (.builtin id) op) (hk : k ≠ .weak) (hg : Gl X x) (hm : X.mg x = none) (hv : bootBuiltins x = some (.builtin id))
    (hn : x ≠ "__name__") (hdb : (x == ("__debug__" : Str)) = false) (ns : NoStar e) (he : PE X e (tE G C k1 g)) :
    PE X (.Call (.Name x p) [e] [] pos) (tE G C k fun ρ st => (g ρ st).bind fun d st1 => Mini.lift (op d) st1) := by
  refine ⟨fun pins s σ H Q I h => wpAny_Call_Name_kw (ld_blt I hg hm hv ?_ hn hdb)⟩
  exact PyProof.Rows.callWith_builtin1 (run_prim hp hk ns he I h fun us s1 z => z) (star_cons ns [] X.env) rfl
theorem se_primT {k1 : Kd} {e : Expr} {g : Ev} {T : String} {x : Str} {op : D → Option D} {p pos : Pos} (hp : PrS G X k (.type T) op) (hk : k ≠ .weak) (hg : Gl X x) (hm : X.mg x = none) (hv : bootBuiltins x = some (.type T))
    (hn : x ≠ "__name__") (hdb : (x == ("__debug__" : Str)) = false) (ns : NoStar e) (he : PE X e (tE G C k1 g)) :
    PE X (.Call (.Name x p) [e] [] pos) (tE G C k fun ρ st => (g ρ st).bind fun d st1 => Mini.lift (op d) st1) := by
  refine ⟨fun pins s σ H Q I h => wpAny_Call_Name_kw (ld_blt I hg hm hv ?_ hn hdb)⟩
  exact PyProof.Rows.callWith_type1 (run_prim hp hk ns he I h fun us s1 z => z) (star_cons ns [] X.env) rfl

/-! ### which -/
theorem prs_len (hX : XOk G X n) : PrS G X .fresh (.builtin "len") (Mini.primD .len) :=
  prs_of call_len fun C ρ st ι σ H x d v Q R w e q => by
    cases x <;> first | (exact absurd (show (none : Option D) = some d from e) (by simp)) | skip
    · rename_i s
      cases (Option.some.inj e)
      obtain ⟨rfl, h1, h2⟩ := w.str
      exact ⟨_, s.length, rfl, ⟨by rw [sS_length]; exact h2, (sS_length s).symm⟩, q _ H R StpE.refl intV⟩
    · rename_i xs
      cases (Option.some.inj e)
      obtain ⟨a, vs, rfl, hq, hr⟩ := w.tup
      have hq := hq.q
      rw [← hX.k] at hq
      exact ⟨_, xs.length, rfl, .inr ⟨vs, hq, hr.length⟩, q _ H R StpE.refl intV⟩
    · rename_i xs
      cases (Option.some.inj e)
      obtain ⟨a, vs, rfl, hq, hr⟩ := w.lst
      rw [← hX.k] at hq
      exact ⟨_, xs.length, rfl, .inl ⟨vs, hq, hr.length⟩, q _ H R StpE.refl intV⟩
theorem Rps.bls : ∀ {ds : List D} {vs : List V} {bs : List Bool}, Rps G.toGx ι W H ds vs → Mini.bools ds = some bs → vs = bs.map V.bl
  | [], _, bs, h, e => by cases h; cases e; rfl
  | d :: ds, _, bs, h, e => by
    cases h with
    | cons h1 h2 =>
      cases d <;> first | (exact absurd (show (none : Option (List Bool)) = some bs from e) (by simp)) | skip
      rename_i v vs b
      obtain ⟨bs', e1, e2⟩ := Option.map_eq_some_iff.mp (show (Mini.bools ds).map (b :: ·) = some bs from e)
      subst e2
      cases h1
      rw [Rps.bls h2 e1]
      rfl
theorem Rps.intsV : ∀ {ds : List D} {vs : List V} {bs : List Int}, Rps G.toGx ι W H ds vs → Mini.intL ds = some bs → vs = bs.map V.int
  | [], _, bs, h, e => by cases h; cases e; rfl
  | d :: ds, _, bs, h, e => by
    cases h with
    | cons h1 h2 =>
      cases d <;> first | (exact absurd (show (none : Option (List Int)) = some bs from e) (by simp)) | skip
      rename_i v vs b
      obtain ⟨bs', e1, e2⟩ := Option.map_eq_some_iff.mp (show (Mini.intL ds).map (b :: ·) = some bs from e)
      subst e2
      cases h1
      rw [Rps.intsV h2 e1]
      rfl
theorem Rps.strsV : ∀ {ds : List D} {vs : List V} {bs : List (List Nat)}, Rps G.toGx ι W H ds vs → Mini.texts ds = some bs → vs = (bs.map sS).map V.str ∧ (∀ s ∈ bs, (∀ c ∈ s, c < 1114112) ∧ s.length ≤ sizeLine)
  | [], _, bs, h, e => by cases h; cases e; exact ⟨rfl, fun _ z => nomatch z⟩
  | d :: ds, _, bs, h, e => by
    cases h with
    | cons h1 h2 =>
      cases d <;> first | (exact absurd (show (none : Option (List (List Nat))) = some bs from e) (by simp)) | skip
      rename_i v vs b
      obtain ⟨bs', e1, e2⟩ := Option.map_eq_some_iff.mp (show (Mini.texts ds).map (b :: ·) = some bs from e)
      subst e2
      cases h1 with
      | str _ c1 c2 =>
        obtain ⟨h3, h4⟩ := Rps.strsV h2 e1
        refine ⟨by rw [h3]; rfl, fun s hs => ?_⟩
        rcases List.mem_cons.1 hs with rfl | hs
        · exact ⟨c1, c2⟩
        · exact h4 s hs
theorem Rps.ofInts (ns : List Int) : Rps G.toGx ι W H (ns.map D.int) (ns.map V.int) := by
  induction ns with
  | nil => exact .nil
  | cons a ns ih => exact .cons (.int a) ih
theorem Rps.ofStrs (bs : List (List Nat)) (h : ∀ s ∈ bs, (∀ c ∈ s, c < 1114112) ∧ s.length ≤ sizeLine) : Rps G.toGx ι W H (bs.map D.str) ((bs.map sS).map V.str) := by
  induction bs with
  | nil => exact .nil
  | cons a bs ih => exact .cons (.str a (h a List.mem_cons_self).1 (h a List.mem_cons_self).2) (ih fun s hs => h s (List.mem_cons_of_mem _ hs))
theorem prs_all (hX : XOk G X n) : PrS G X .fresh (.builtin "all") (Mini.primD .all) :=
  prs_of (cr_all hX.calm) fun C ρ st ι σ H x d v Q R w e q => by
    cases x <;> first | (exact absurd (show (none : Option D) = some d from e) (by simp)) | skip
    rename_i xs
    obtain ⟨bs, e1, rfl⟩ := Option.map_eq_some_iff.mp (show (Mini.bools xs).map (fun b => D.bl (b.all id)) = some d from e)
    obtain ⟨a, vs, rfl, hq, hr⟩ := w.lst
    rw [← hX.k] at hq
    have ev := hr.bls e1
    subst ev
    exact ⟨a, bs, rfl, hq, q _ H R StpE.refl ⟨.bl _, fun z => z.elim⟩⟩
theorem prs_any (hX : XOk G X n) : PrS G X .fresh (.builtin "any") (Mini.primD .any) :=
  prs_of (cr_any hX.calm) fun C ρ st ι σ H x d v Q R w e q => by
    cases x <;> first | (exact absurd (show (none : Option D) = some d from e) (by simp)) | skip
    rename_i xs
    obtain ⟨bs, e1, rfl⟩ := Option.map_eq_some_iff.mp (show (Mini.bools xs).map (fun b => D.bl (b.any id)) = some d from e)
    obtain ⟨a, vs, rfl, hq, hr⟩ := w.lst
    rw [← hX.k] at hq
    have ev := hr.bls e1
    subst ev
    exact ⟨a, bs, rfl, hq, q _ H R StpE.refl ⟨.bl _, fun z => z.elim⟩⟩
theorem prs_sum (hX : XOk G X n) : PrS G X .fresh (.builtin "sum") (Mini.primD .sum) :=
  prs_of (cr_sum hX.calm) fun C ρ st ι σ H x d v Q R w e q => by
    cases x <;> first | (exact absurd (show (none : Option D) = some d from e) (by simp)) | skip
    rename_i xs
    obtain ⟨bs, e1, rfl⟩ := Option.map_eq_some_iff.mp (show (Mini.intL xs).map (fun b => D.int b.sum) = some d from e)
    obtain ⟨a, vs, rfl, hq, hr⟩ := w.lst
    rw [← hX.k] at hq
    have ev := hr.intsV e1
    subst ev
    exact ⟨a, bs, rfl, hq, q _ H R StpE.refl intV⟩
theorem prs_int : PrS G X .fresh (.type "int") (Mini.primD .int) :=
  prs_of call_int1 fun C ρ st ι σ H x d v Q R w e q => by
    cases x <;> first | (exact absurd (show (none : Option D) = some d from e) (by simp)) | skip
    rename_i i
    cases (Option.some.inj e)
    exact .inl ⟨i, by rw [w.int], q _ H R StpE.refl intV⟩
theorem prs_tuple (hX : XOk G X n) : PrS G X .fresh (.type "tuple") (Mini.primD .tuple) :=
  prs_of call_tuple_of fun C ρ st ι σ H x d v Q R w e q => by
    cases x <;> first | (exact absurd (show (none : Option D) = some d from e) (by simp)) | skip
    · rename_i xs
      cases (Option.some.inj e)
      obtain ⟨a, vs, rfl, hs, hr⟩ := w.tup
      have hq := hs.q
      rw [← hX.k] at hq
      exact ⟨a, vs, rfl, .inr ⟨hq, q _ H R StpE.refl ⟨.tup hs hr, fun z => z.elim⟩⟩⟩
    · rename_i xs
      cases (Option.some.inj e)
      obtain ⟨a, vs, rfl, hq, hr⟩ := w.lst
      rw [← hX.k] at hq
      exact ⟨a, vs, rfl, .inl ⟨hq, fun p hp => q _ _ (R.new hp).1 (R.new hp).2 ⟨R.newTup hp hr, fun z => z.elim⟩⟩⟩
/-- list of a list, of a tuple -/
def listSq : D → Option D
  | .lst xs => some (.lst xs)
  | .tup xs => some (.lst xs)
  | _ => none
theorem ltZ {n : Nat} (s : List Nat) {i : Nat} (h : i < (sS s).cps.size) : i < s.length := by
  have : (sS s).cps.size = s.length := sS_length s
  omega
/-- list of a text -/
def listTx : D → Option D
  | .str s => some (.lst (s.map fun c => .str [c]))
  | _ => none
theorem Rps.ofSigns (s : List Nat) (h : ∀ c ∈ s, c < 1114112) : Rps G.toGx ι W H (s.map fun c => D.str [c]) (s.map fun c => V.str (sS [c])) := by
  induction s with
  | nil => exact .nil
  | cons a s ih => exact .cons (.str [a] (fun c hc => by rw [List.mem_singleton.mp hc]; exact h a List.mem_cons_self) (by rw [sizeLine_eq]; exact Nat.le_of_ble_eq_true rfl)) (ih fun c hc => h c (List.mem_cons_of_mem _ hc))
theorem call_list_tx (hc : X.calm = true) : CallR X (.type "list") (fun xs H Q => ∃ s : List Nat, xs = [.str (sS s)] ∧ s.length ≤ sizeLine ∧ ∀ p, H p = none → Q (.ref p) (upd H p (.lst (s.map fun c => V.str (sS [c]))))) := by
  rintro pins s σ H xs us Q I r ⟨x, rfl, hz, q⟩
  obtain ⟨_, rfl, rel⟩ := vals1 r
  obtain ⟨t, rfl⟩ := rel
  have e1 : (sS x).cps.size = x.length := sS_length x
  refine PySem.call_list_str (I.ok.hd hc) (sS x) t (fun h' tk acc c' hk e' hi => ?_) (by rw [e1]; exact hz)
  refine ⟨.ref s.heap.objs.size, upd H s.heap.objs.size (.lst (x.map fun c => V.str (sS [c]))), I.laid hk (Nat.le_refl _) (show ObjOk X.prog X.w _ _ _ (.lst (x.map fun c => V.str (sS [c]))) from ⟨?_, acc.toList, c', ?_, ?_⟩), rfl, q _ (I.hok.fresh (Nat.le_refl _))⟩
  · rw [List.length_map]; exact hz
  · have key : ∀ (l : List Value) (y : List Nat), l.length = y.length → (∀ (j : Nat) (u : Value), l[j]? = some u → ∃ c, y[j]? = some c ∧ RelV (.str (sS [c])) u) → Vals (y.map fun c => V.str (sS [c])) l := by
      intro l
      induction l with
      | nil =>
        intro y hl _
        cases y with
        | nil => exact .nil
        | cons _ _ => cases hl
      | cons u l ih =>
        intro y hl hg
        cases y with
        | nil => cases hl
        | cons c y =>
          obtain ⟨c', e, r⟩ := hg 0 u rfl
          cases e
          exact .cons r (ih y (by simpa using hl) fun j u' hj => hg (j + 1) u' hj)
    refine key acc.toList x (by rw [Array.length_toList]; exact hi.1.trans e1) fun j u hj => ?_
    obtain ⟨c, tk, hc, eu⟩ := hi.2 j u (by rw [← hj, Array.getElem?_toList])
    refine ⟨c, ?_, tk, eu⟩
    rw [← Array.getElem?_toList, sS_cps] at hc
    exact hc
  · simpa using e'
theorem prs_list1 (hX : XOk G X n) : PrS G X .fresh (.type "list") listSq :=
  prs_of call_list_of fun C ρ st ι σ H x d v Q R w e q => by
    cases x <;> first | (exact absurd (show (none : Option D) = some d from e) (by simp)) | skip
    · rename_i xs
      cases (Option.some.inj e)
      obtain ⟨a, vs, rfl, hs, hr⟩ := w.tup
      have hq := hs.q
      rw [← hX.k] at hq
      exact ⟨a, vs, rfl, .inr hq, fun p hp => q _ _ (R.new hp).1 (R.new hp).2 (R.newLst hp hr)⟩
    · rename_i xs
      cases (Option.some.inj e)
      obtain ⟨a, vs, rfl, hq, hr⟩ := w.lst
      rw [← hX.k] at hq
      exact ⟨a, vs, rfl, .inl hq, fun p hp => q _ _ (R.new hp).1 (R.new hp).2 (R.newLst hp hr)⟩
theorem prs_list2 (hX : XOk G X n) : PrS G X .fresh (.type "list") listTx :=
  prs_of (call_list_tx hX.calm) fun C ρ st ι σ H x d v Q R w e q => by
    cases x <;> first | (exact absurd (show (none : Option D) = some d from e) (by simp)) | skip
    rename_i s
    cases (Option.some.inj e)
    obtain ⟨rfl, h1, h2⟩ := w.str
    exact ⟨s, rfl, h2, fun p hp => q _ _ (R.new hp).1 (R.new hp).2 (R.newLst hp (Rps.ofSigns s h1))⟩
theorem prs_list (hX : XOk G X n) : PrS G X .fresh (.type "list") (Mini.primD .list) :=
  ((prs_list1 hX).or (prs_list2 hX)).weaker fun x d e => by cases x <;> exact e
end
end Snd
end
section
set_option maxRecDepth 100000
set_option maxHeartbeats 4000000
/-! Snd11: sorted, isinstance. -/
namespace Mini
section
variable {α : Type} {lt : α → α → Bool}
theorem insG_perm (x : α) : ∀ ys : List α, (insG lt x ys).Perm (x :: ys)
  | [] => .refl _
  | y :: ys => by
    unfold insG
    split
    · exact ((insG_perm x ys).cons y).trans (.swap x y ys)
    · exact .refl _
theorem sortG_perm : ∀ xs : List α, (sortG lt xs).Perm xs
  | [] => .refl _
  | x :: xs => (insG_perm x _).trans ((sortG_perm xs).cons x)
theorem insG_rise (tr : ∀ a b c, lt b a = false → lt c b = false → lt c a = false) (as : ∀ a b, lt a b = true → lt b a = false) (x : α) : ∀ ys : List α, ys.Pairwise (fun a b => lt b a = false) → (insG lt x ys).Pairwise (fun a b => lt b a = false)
  | [], _ => List.pairwise_singleton ..
  | y :: ys, h => by
    obtain ⟨h1, h2⟩ := List.pairwise_cons.1 h
    unfold insG
    split
    · rename_i q
      refine List.pairwise_cons.mpr ⟨fun z hz => ?_, insG_rise tr as x ys h2⟩
      rcases List.mem_cons.mp ((insG_perm x ys).mem_iff.mp hz) with rfl | hz
      · exact as _ _ q
      · exact h1 z hz
    · rename_i q
      have q : lt y x = false := by simpa using q
      refine List.pairwise_cons.mpr ⟨fun z hz => ?_, h⟩
      rcases List.mem_cons.1 hz with rfl | hz
      · exact q
      · exact tr x y z q (h1 z hz)
theorem sortG_rise (tr : ∀ a b c, lt b a = false → lt c b = false → lt c a = false) (as : ∀ a b, lt a b = true → lt b a = false) : ∀ xs : List α, (sortG lt xs).Pairwise (fun a b => lt b a = false)
  | [] => .nil
  | x :: xs => insG_rise tr as x _ (sortG_rise tr as xs)
end
theorem ltL_eq : ∀ a b : List Nat, ltL a b = decide (a < b)
  | [], [] => by simp [ltL]
  | [], b :: bs => by simp [ltL]
  | a :: as, [] => by simp [ltL]
  | a :: as, b :: bs => by
    have ih := ltL_eq as bs
    unfold ltL
    by_cases h1 : a < b
    · rw [if_pos h1]
      exact (decide_eq_true (List.cons_lt_cons_iff.mpr (.inl h1))).symm
    · rw [if_neg h1]
      by_cases h2 : b < a
      · rw [if_pos h2]
        refine (decide_eq_false fun z => ?_).symm
        rcases List.cons_lt_cons_iff.mp z with z | z
        · exact h1 z
        · omega
      · rw [if_neg h2, ih]
        have e : a = b := by omega
        subst e
        refine decide_eq_decide.mpr ⟨fun z => List.cons_lt_cons_iff.mpr (.inr ⟨rfl, z⟩), fun z => ?_⟩
        rcases List.cons_lt_cons_iff.mp z with z | z
        · exact absurd z h1
        · exact z.2
theorem ltL_le {a b : List Nat} : ltL b a = false ↔ a ≤ b := by
  rw [ltL_eq]
  exact decide_eq_false_iff_not
theorem sortL_rise (xs : List (List Nat)) : (sortG ltL xs).Pairwise (fun a b => a ≤ b) := by
  refine (sortG_rise (lt := ltL) (fun a b c h1 h2 => ltL_le.mpr (List.le_trans (ltL_le.mp h1) (ltL_le.mp h2))) (fun a b h => ltL_le.mpr ?_) xs).imp fun h => ltL_le.mp h
  rw [ltL_eq] at h
  exact List.le_of_lt (of_decide_eq_true h)
theorem sortI_rise (xs : List Int) : (sortG (fun a b => decide (a < b)) xs).Pairwise (fun a b => a ≤ b) := by
  refine (sortG_rise (lt := fun (a b : Int) => decide (a < b)) (fun a b c h1 h2 => ?_) (fun a b h => ?_) xs).imp fun h => ?_
  · have h1 := of_decide_eq_false h1
    have h2 := of_decide_eq_false h2
    exact decide_eq_false_iff_not.mpr (by omega)
  · have h := of_decide_eq_true h
    exact decide_eq_false_iff_not.mpr (by omega)
  · have h := of_decide_eq_false h
    omega
theorem sortD_inv {xs : List D} {d : D} (h : sortD xs = some d) : xs.length < 64 ∧ ((∃ bs, texts xs = some bs ∧ d = .lst ((sortG ltL bs).map .str)) ∨ ∃ ns, Mini.intL xs = some ns ∧ d = .lst ((sortG (fun a b => decide (a < b)) ns).map .int)) := by
  unfold sortD at h
  split at h
  · rename_i q
    refine ⟨of_decide_eq_true q, ?_⟩
    split at h
    · rename_i bs e
      exact .inl ⟨bs, e, (Option.some.inj h).symm⟩
    · obtain ⟨ns, e, r⟩ := Option.map_eq_some_iff.mp h
      exact .inr ⟨ns, e, r.symm⟩
  · cases h
end Mini
namespace Snd
theorem noStar_name {x : PySem.Str} {p : PySem.Pos} : NoStar (.Name x p) := by intro _ _ z; cases z
theorem noStar_tup {x : List PySem.Expr} {j : Nat} {p : PySem.Pos} : NoStar (.Tuple x j p) := by intro _ _ z; cases z
open PySem PySem.Spec PyProof.Rows L2
open Mini (D Sl Xc Res SRes Ex Ar Itr Stm Tgt)
theorem rising_le {p : Str} : ∀ {l : List Str}, risingS p l = true → (p :: l).Pairwise (fun a b => a.cps.toList ≤ b.cps.toList)
  | [], _ => List.pairwise_singleton ..
  | x :: r, h => by
    obtain ⟨h1, h2⟩ := Bool.and_eq_true_iff.mp (show (!ltCps x.cps.toList p.cps.toList && risingS x r) = true from h)
    have h3 := rising_le h2
    have hp : p.cps.toList ≤ x.cps.toList := by
      rw [ltCps_eq] at h1
      have : decide (x.cps.toList < p.cps.toList) = false := by simpa using h1
      exact of_decide_eq_false this
    refine List.pairwise_cons.mpr ⟨fun z hz => ?_, h3⟩
    rcases List.mem_cons.1 hz with rfl | hz
    · exact hp
    · exact List.le_trans hp ((List.pairwise_cons.mp h3).1 z hz)
theorem sorted_le {l : List Str} (h : sortedS l = true) : l.Pairwise (fun a b => a.cps.toList ≤ b.cps.toList) := by
  cases l with
  | nil => exact .nil
  | cons p l => exact rising_le h
theorem sorted_one {ys : List Str} {bs : List (List Nat)} (hp : ys.Perm (bs.map sS)) (h : sortedS ys = true) : ys = (Mini.sortG Mini.ltL bs).map sS := by
  refine List.Perm.eq_of_pairwise (le := fun a b => a.cps.toList ≤ b.cps.toList) (fun a b ha hb h1 h2 => ?_) (sorted_le h) ?_ (hp.trans (((Mini.sortG_perm bs).map sS).symm))
  · have e : a.cps.toList = b.cps.toList := List.le_antisymm h1 h2
    obtain ⟨⟨a⟩⟩ := a
    obtain ⟨⟨b⟩⟩ := b
    cases (show a = b from e)
    rfl
  · refine List.pairwise_map.mpr ((Mini.sortL_rise bs).imp fun {a b} h => ?_)
    rw [sS_cps, sS_cps]
    exact h
section
variable {G : Gy} {C : FCx} {X : Cx} {n : Nat} {ι ι' : List Addr} {W W' : Addr → Prop} {H H' : Hp} {ρ : Mini.Env} {st : Mini.Store} {σ : L2.St} {k : Kd}
theorem prs_sorted (hX : XOk G X n) : PrS G X .fresh (.builtin "sorted") (Mini.primD .sorted) :=
  prs_of ((cr_sorted (X := X)).or cr_sortedS) fun C ρ st ι σ H x d v Q R w e q => by
    cases x <;> first | (exact absurd (show (none : Option D) = some d from e) (by simp)) | skip
    rename_i xs
    obtain ⟨h64, he⟩ := Mini.sortD_inv e
    obtain ⟨a, vs, rfl, hq, hr⟩ := w.lst
    rw [← hX.k] at hq
    have hl := hr.length
    rcases he with ⟨bs, e1, rfl⟩ | ⟨ns, e1, rfl⟩
    · obtain ⟨ev, hb⟩ := hr.strsV e1
      subst ev
      rw [List.length_map] at hl
      refine .inr ⟨a, bs.map sS, rfl, hq, by omega, fun ys p hp hs hf => ?_⟩
      rw [sorted_one hp hs]
      exact q _ _ (R.new hf).1 (R.new hf).2 (R.newLst hf (Rps.ofStrs _ fun s hs => hb s ((Mini.sortG_perm bs).mem_iff.mp hs)))
    · have ev := hr.intsV e1
      subst ev
      rw [List.length_map] at hl
      refine .inl ⟨a, ns, rfl, hq, by omega, fun ys p hp hs hf => ?_⟩
      have e2 : ys = Mini.sortG (fun a b => decide (a < b)) ns := List.Perm.eq_of_pairwise (le := fun (a b : Int) => a ≤ b) (fun a b _ _ h1 h2 => by omega) hs (Mini.sortI_rise ns) (hp.trans (Mini.sortG_perm ns).symm)
      rw [e2]
      exact q _ _ (R.new hf).1 (R.new hf).2 (R.newLst hf (Rps.ofInts _))

/-! ### isinstance -/
/-- the built-in type of a value -/
def tyD : D → Option String
  | .non => some "NoneType"
  | .bl _ => some "bool"
  | .int _ => some "int"
  | .str _ => some "str"
  | .tup _ => some "tuple"
  | .lst _ => some "list"
  | _ => none
theorem RpW.ty {d : D} {v : V} {T : String} (w : RpW G.toGx ι W H d v) (e : tyD d = some T) : TyX G.K H v (.type T) := by
  cases d <;> first | (exact absurd (show (none : Option String) = some T from e) (by simp)) | (cases (Option.some.inj e))
  · rw [w.non]; exact .base .non
  · rw [w.bl]; exact .base (.bl _)
  · rw [w.int]; exact .base (.int _)
  · rw [w.str.1]; exact .base (.str _)
  · obtain ⟨a, vs, rfl, hs, _⟩ := w.tup
    rcases hs with ⟨h | ⟨u, h⟩, _⟩ | ⟨o, _, _, h, hc, _⟩
    · exact .base (.tup h)
    · exact .fTuple h
    · exact .kTuple h hc
  · obtain ⟨a, vs, rfl, hs, _⟩ := w.lst
    rcases hs with (h | ⟨u, h⟩) | ⟨o, _, _, h, hc, _⟩
    · exact .base (.lst h)
    · exact .base (.frz h)
    · exact .kList h hc
/-- isinstance(_, T) -/
def isiD (T : String) (x : D) : Option D := (tyD x).bind fun t => (kitB t T).map .bl
theorem se_isi {k1 : Kd} {e : Expr} {g : Ev} {T : String} {x : Str} {p pos p2 : Pos} (hX : XOk G X n) (hg : Gl X "isinstance") (hm : X.mg "isinstance" = none) (hgT : Gl X x) (hmT : X.mg x = none) (hvT : bootBuiltins x = some (.type T))
    (hn : x ≠ "__name__") (hdb : (x == ("__debug__" : Str)) = false) (ns : NoStar e) (he : PE X e (tE G C k1 g)) :
    PE X (.Call (.Name "isinstance" p) [e, .Name x p2] [] pos) (tE G C .strong fun ρ st => (g ρ st).bind fun d st1 => Mini.lift (isiD T d) st1) := by
  have pa : PA X [e, .Name x p2] (tCons (tE G C k1 g) (tCons (tC (.ty T)) tNil)) := pa_cons he (pa_cons (pe_bltn hgT hmT hvT rfl hn hdb) pa_nil (star_cons noStar_name _ _)) (star_cons ns _ _)
  refine peMono (pe_callB call_isi hg hm (by decide +kernel) pa (by decide) (by decide) (star_cons ns _ _) rfl) fun σ H Q ⟨ρ, st, ι, R, q⟩ => tE_post R q fun y st1 v ι1 H1 e1 R1 S1 w1 q1 => ?_
  cases hd : isiD T y with
  | none => rw [hd] at q1; exact q1.elim
  | some d =>
    rw [hd] at q1
    obtain ⟨t, ht, hb⟩ := Option.bind_eq_some_iff.mp hd
    obtain ⟨b, hb1, rfl⟩ := Option.map_eq_some_iff.mp hb
    refine ⟨v, .ty T, .type t, .type T, b, rfl, .ty T, ?_, kit_ty hb1, q1 _ ι1 H1 R1 S1 (.bl b)⟩
    rw [hX.k]
    exact w1.weak.ty ht
/-- isinstance(_, (T, U)) -/
def isi2D (T U : String) (x : D) : Option D := (tyD x).bind fun t => (kitB t T).bind fun b => if b then some (.bl true) else (kitB t U).map .bl
theorem se_isi2 {k1 : Kd} {e : Expr} {g : Ev} {T U : String} {x y : Str} {p pos p2 p3 p4 : Pos} {j : Nat} (hX : XOk G X n) (hg : Gl X "isinstance") (hm : X.mg "isinstance" = none) (hgT : Gl X x) (hmT : X.mg x = none) (hvT : bootBuiltins x = some (.type T))
    (hgU : Gl X y) (hmU : X.mg y = none) (hvU : bootBuiltins y = some (.type U))
    (hn : x ≠ "__name__") (hdb : (x == ("__debug__" : Str)) = false) (hn2 : y ≠ "__name__") (hdb2 : (y == ("__debug__" : Str)) = false) (ns : NoStar e) (he : PE X e (tE G C k1 g)) :
    PE X (.Call (.Name "isinstance" p) [e, .Tuple [.Name x p2, .Name y p3] j p4] [] pos) (tE G C .strong fun ρ st => (g ρ st).bind fun d st1 => Mini.lift (isi2D T U d) st1) := by
  have pt : PE X (.Tuple [.Name x p2, .Name y p3] j p4) (tTup (tCons (tC (.ty T)) (tCons (tC (.ty U)) tNil))) := pe_tup (pa_cons (pe_bltn hgT hmT hvT rfl hn hdb) (pa_cons (pe_bltn hgU hmU hvU rfl hn2 hdb2) pa_nil (star_cons noStar_name _ _)) (star_cons noStar_name _ _))
  have pa : PA X [e, .Tuple [.Name x p2, .Name y p3] j p4] (tCons (tE G C k1 g) (tCons (tTup (tCons (tC (.ty T)) (tCons (tC (.ty U)) tNil))) tNil)) := pa_cons he (pa_cons pt pa_nil (star_cons noStar_tup _ _)) (star_cons ns _ _)
  refine peMono (pe_callB call_isiT hg hm (by decide +kernel) pa (by decide) (by decide) (star_cons ns _ _) rfl) fun σ H Q ⟨ρ, st, ι, R, q⟩ => tE_post R q fun y st1 v ι1 H1 e1 R1 S1 w1 q1 => ?_
  cases hd : isi2D T U y with
  | none => rw [hd] at q1; exact q1.elim
  | some d =>
    rw [hd] at q1
    refine ⟨by rw [sizeLine_eq]; exact Nat.le_of_ble_eq_true rfl, fun tp hf => ?_⟩
    obtain ⟨t, ht, hb⟩ := Option.bind_eq_some_iff.mp hd
    obtain ⟨b, hb1, hb2⟩ := Option.bind_eq_some_iff.mp hb
    obtain ⟨c, ed, kc⟩ : ∃ c, d = .bl c ∧ PySem.W.kitAny X.K (.type t) [.type T, .type U] = some c := by
      cases b with
      | true =>
        cases (Option.some.inj hb2)
        exact ⟨true, rfl, kitAny_cons (kit_ty hb1) (fun z => by cases z) fun _ => rfl⟩
      | false =>
        obtain ⟨c, hc, rfl⟩ := Option.map_eq_some_iff.mp hb2
        exact ⟨c, rfl, kitAny_cons (kit_ty hb1) (fun _ => kitAny_cons (kit_ty hc) (fun z => by rw [z]; rfl) fun z => z) (fun z => by cases z)⟩
    subst ed
    have R2 := R1.new (o := .tup [.ty T, .ty U]) hf
    refine ⟨v, tp, [.ty T, .ty U], .type t, [.type T, .type U], c, rfl, upd_same, .cons (.ty T) (.cons (.ty U) .nil), ?_, kc, q1 _ ι1 _ R2.1 (S1.trans R2.2) (.bl c)⟩
    rw [hX.k]
    exact (w1.weak.mono R2.2).ty ht
end
end Snd
end
section
set_option maxRecDepth 100000
set_option maxHeartbeats 4000000
/-! Snd12: in, the operators together, -x. -/
namespace Snd
open PySem PySem.Spec PyProof.Rows L2
open Mini (D Sl Xc Res SRes Ex Ar Itr Stm Tgt)
section
variable {G : Gy} {C : FCx} {X : Cx} {n : Nat} {ι ι' : List Addr} {W W' : Addr → Prop} {H H' : Hp} {ρ : Mini.Env} {st : Mini.Store} {σ : L2.St} {k : Kd}
theorem inD_inv {x y : D} {b : Bool} (h : Mini.inD x y = some b) : ∃ ys, (y = .lst ys ∨ y = .tup ys) ∧ Mini.inL x ys = some b := by
  cases y <;> first | (exact absurd (show (none : Option Bool) = some b from h) (by simp)) | skip
  · exact ⟨_, .inr rfl, h⟩
  · exact ⟨_, .inl rfl, h⟩
theorem ops_in (hX : XOk G X n) : OpS G X .strong (compareOp .In) (cmpO .isin) := by
  intro C pins s ρ st ι σ H x y d v1 v2 u1 u2 Q I r1 r2 R w1 w2 e q
  obtain ⟨b, hb, rfl⟩ := Option.map_eq_some_iff.mp e
  obtain ⟨ys, hy, hi⟩ := inD_inv hb
  exact in_seq hX (neg := false) I r1 r2 w1 w2 hy hi (blQ R q)
theorem ops_notin (hX : XOk G X n) : OpS G X .strong (compareOp .NotIn) (cmpO .notin) := by
  intro C pins s ρ st ι σ H x y d v1 v2 u1 u2 Q I r1 r2 R w1 w2 e q
  obtain ⟨b, hb, rfl⟩ := Option.map_eq_some_iff.mp e
  obtain ⟨c, hc, rfl⟩ := Option.map_eq_some_iff.mp (show (Mini.inD x y).map (!·) = some b from hb)
  obtain ⟨ys, hy, hi⟩ := inD_inv hc
  exact in_seq hX (neg := true) I r1 r2 w1 w2 hy hi (blQ R q)
def toCmp : Mini.COp → CmpOp
  | .eq => .Eq | .ne => .NotEq | .lt => .Lt | .le => .LtE | .gt => .Gt | .ge => .GtE | .isin => .In | .notin => .NotIn | .isN => .Is | .notN => .IsNot
theorem ops_cmp (hX : XOk G X n) (o : Mini.COp) : OpS G X .strong (compareOp (toCmp o)) (cmpO o) := by
  cases o with
  | eq => exact ops_eq hX
  | ne => exact ops_ne hX
  | lt => exact ops_lt
  | le => exact ops_le
  | gt => exact ops_gt
  | ge => exact ops_ge
  | isin => exact ops_in hX
  | notin => exact ops_notin hX
  | isN => exact ops_isN
  | notN => exact ops_notN
def toBin : Mini.BOp → Operator
  | .add => .Add | .sub => .Sub | .mul => .Mult | .fdiv => .FloorDiv | .mod => .Mod | .pow => .Pow
theorem ops_bin (hX : XOk G X n) (o : Mini.BOp) : OpS G X .fresh (binaryOp (toBin o)) (fun _ => Mini.binD o) := by
  cases o with
  | add => exact ops_add hX
  | sub => exact ops_sub
  | mul => exact ops_mul hX
  | fdiv => exact ops_fdiv
  | mod => exact ops_mod
  | pow => exact ops_pow
theorem se_neg {k1 : Kd} {e : Expr} {g : Ev} {pos : Pos} (he : PE X e (tE G C k1 g)) : PE X (.UnaryOp .USub e pos) (tE G C .strong fun ρ st => (g ρ st).bind fun x st1 => match x with
    | .int i => .ok (.int (-i)) st1
    | _ => .stuck) := by
  refine peMono (pe_un un_neg he) fun σ H Q ⟨ρ, st, ι, R, q⟩ => tE_post R q fun x st1 v ι1 H1 e1 R1 S1 w1 q1 => ?_
  cases x <;> first | exact q1.elim | skip
  rename_i i
  exact ⟨i, w1.weak.int, q1 _ ι1 H1 R1 S1 (.int _)⟩
/-- what is given, another way told -/
theorem PE.conv {e : Expr} {g g' : Ev} (h : PE X e (tE G C k g)) (eq : ∀ ρ st, g' ρ st = g ρ st) : PE X e (tE G C k g') := by
  have : g' = g := funext fun ρ => funext fun st => eq ρ st
  rw [this]
  exact h
theorem PT.conv {e : Expr} {g g' : EvT} (h : PT X e (tT G C g)) (eq : ∀ ρ st, g' ρ st = g ρ st) : PT X e (tT G C g') := by
  have : g' = g := funext fun ρ => funext fun st => eq ρ st
  rw [this]
  exact h
end
end Snd
end
section
set_option maxRecDepth 100000
set_option maxHeartbeats 4000000
/-! Snd13: calls of defs. -/
namespace Snd
open PySem PySem.Spec PyProof.Rows L2
open Mini (D Sl Xc Res SRes Ex Ar Itr Stm Tgt)
/-- .. as they are in that state, out of the reach of the frames that run -/
def cloAt (outer : List Env) (s : Shared) (H0 : Hp) : CloP := fun cells fr ws => NdefX.CellsAt cells fr (ws.map some) s.heap H0 ∧ ∀ y c, cells.lookup y = some c → c ∉ frs outer
section
variable (G : Gx)
/-- what is handed on -/
def ArgR (clo : CloP) (ι : List Addr) (W : Addr → Prop) (H : Hp) : Sl → V → Prop
  | .val d, v => Rp G ι W H d v
  | .clo k cap, v => ∃ f, v = .ref f ∧ CloR G clo ι W H k cap f
  | _, _ => False
/-- what a call's argument gives: a value; a closure; a function made here -/
def PreR (C : FCx) (σ : L2.St) (ι : List Addr) (W : Addr → Prop) (H : Hp) : Sl → V → Prop
  | .val d, v => Rp G ι W H d v
  | .clo k cap, v => ∃ f, v = .ref f ∧ (CloR G C.clo ι W H k cap f ∨ ∃ L, G.lamOk k L ∧ LamR C.cells W H L f ∧ ∃ (ws : List V) (js : List Nat), Rps G ι W H cap ws ∧ js.map (fun j => C.N[j]?) = L.cap.map some ∧ js.map (NdefX.slotAt σ) = ws.map some ∧
      (∀ y ∈ L.scope.names, y.2 = .free → C.names.lookup y.1 = some .cell ∨ C.names.lookup y.1 = some .free) ∧ ∀ y ∈ L.cap, (y, NameKind.free) ∈ L.scope.names)
  | _, _ => False
inductive PresR (C : FCx) (σ : L2.St) (ι : List Addr) (W : Addr → Prop) (H : Hp) : List Sl → List V → Prop
  | nil : PresR C σ ι W H [] []
  | cons {s : Sl} {v : V} {ss : List Sl} {vs : List V} : PreR G C σ ι W H s v → PresR C σ ι W H ss vs → PresR C σ ι W H (s :: ss) (v :: vs)
inductive ArgsR (clo : CloP) (ι : List Addr) (W : Addr → Prop) (H : Hp) : List Sl → List V → Prop
  | nil : ArgsR clo ι W H [] []
  | cons {s : Sl} {v : V} {ss : List Sl} {vs : List V} : ArgR G clo ι W H s v → ArgsR clo ι W H ss vs → ArgsR clo ι W H (s :: ss) (v :: vs)
/-- where others' own lists lie -/
def ZOk (ι : List Addr) (Z : Addr → Prop) (H : Hp) : Prop := ∀ a, Z a → (∃ o, H a = some o ∧ Deck G a o) ∧ a ∉ ι
def Wz (ι : List Addr) (Z : Addr → Prop) : Addr → Prop := fun a => a ∈ ι ∨ Z a
end
section
variable (G : Gy)
/-- what a call gives -/
def PostC (ι : List Addr) (Z : Addr → Prop) (H : Hp) (r : Res D) (Q : VK) (E : XK) : Prop := match r with
  | .ok d st' => ∀ v ι' H', StpE ι H ι' H' → StoR G.toGx ι' (Wz ι' Z) H' st' → LamX.Tabs G.T H' → Rp G.toGx ι' (Wz ι' Z) H' d v → Q v H'
  | .raise x st' => ∀ cls dx ι' H', StpE ι H ι' H' → StoR G.toGx ι' (Wz ι' Z) H' st' → LamX.Tabs G.T H' → ExcR G.ex H' x cls dx → E cls dx H'
  | .stuck => False
/-- a def's promise -/
def SpC (r : List Sl → Mini.Store → Res D) (np : Nat) : List Env → Shared → Sp := fun outer s vs H Q E => vs.length = np ∧ ∃ ss st ι Z, ArgsR G.toGx (cloAt outer s H) ι (Wz ι Z) H ss vs ∧ StoR G.toGx ι (Wz ι Z) H st ∧ ZOk G.toGx ι Z H ∧ LamX.Tabs G.T H ∧ PostC G ι Z H (r ss st) Q E
/-- .. of the very state -/
structure FnC (P : Program) (w : World) (K : PySem.W.Frag) (mg : Str → Option Value) (base : Heap) (X : CXT) (k : Nat) (f : Addr) (fd : FuncData) (ps : List Str) (sp : List Env → Shared → Sp) : Prop where
  len : ∀ o s vs H Q E, sp o s vs H Q E → vs.length = ps.length
  run : ∀ (A : Around) (outer : List Env) (s : Shared) (H : Hp) (args : Args) (us : List Value) (vs : List V) (Q : VK) (E : XK), Room k A → Env0 P w K mg base A outer s H → BindsTo s fd args (ps.zip us) → Vals vs us → sp outer s vs H Q E → codeAny (model P w) A (.call (.ref f) args) (CR X outer P w H s Q E) s
def PostS (C : FCx) (ρ : Mini.Env) (ι : List Addr) (σ : L2.St) (H : Hp) (r : Res (List Sl)) (Q : List V → Hp → Prop) : Prop := match r with
  | .ok ss st' => ∀ vs ι' H', Rl G.toGx C ρ st' ι' σ H' → StpE ι H ι' H' → PresR G.toGx C σ ι' (Wr C ι' ρ σ) H' ss vs → Q vs H'
  | .raise x st' => ∀ cls dx ι' H', Rl G.toGx C ρ st' ι' σ H' → ExcR G.ex H' x cls dx → C.EE cls dx H'
  | .stuck => False
def tS (C : FCx) (g : Mini.Env → Mini.Store → Res (List Sl)) : TA := fun σ H Q => ∃ ρ st ι, Rl G.toGx C ρ st ι σ H ∧ PostS G C ρ ι σ H (g ρ st) Q
def PostS1 (C : FCx) (ρ : Mini.Env) (ι : List Addr) (σ : L2.St) (H : Hp) (r : Res Sl) (Q : VK) : Prop := match r with
  | .ok s st' => ∀ v ι' H', Rl G.toGx C ρ st' ι' σ H' → StpE ι H ι' H' → PreR G.toGx C σ ι' (Wr C ι' ρ σ) H' s v → Q v H'
  | .raise x st' => ∀ cls dx ι' H', Rl G.toGx C ρ st' ι' σ H' → ExcR G.ex H' x cls dx → C.EE cls dx H'
  | .stuck => False
def tS1 (C : FCx) (g : Mini.Env → Mini.Store → Res Sl) : TE := fun σ H Q => ∃ ρ st ι, Rl G.toGx C ρ st ι σ H ∧ PostS1 G C ρ ι σ H (g ρ st) Q
end
section
variable {G : Gy} {C : FCx} {X : Cx} {n : Nat} {ι ι' : List Addr} {W W' : Addr → Prop} {H H' : Hp} {ρ : Mini.Env} {st st' : Mini.Store} {σ : L2.St} {k : Kd}
abbrev EvS := Mini.Env → Mini.Store → Res (List Sl)
abbrev EvS1 := Mini.Env → Mini.Store → Res Sl
/-! ### fewer places that may be written -/
theorem anti (h : ∀ a, W' a → W a) : Stp ι W H ι W' H := ⟨⟨[], by simp⟩, fun _ _ e _ _ => e, fun a z => .inl (h a z), fun _ z => z⟩
theorem ArgR.mono {clo : CloP} (s : Stp ι W H ι' W' H') {x : Sl} {v : V} (h : ArgR G.toGx clo ι W H x v) : ArgR G.toGx clo ι' W' H' x v := by
  cases x with
  | val d => exact Rp.mono s d v h
  | clo k cap =>
    obtain ⟨f, e, h⟩ := h
    exact ⟨f, e, h.mono s⟩
  | _ => exact h
theorem ArgsR.mono {clo : CloP} (s : Stp ι W H ι' W' H') : ∀ {x : List Sl} {v : List V}, ArgsR G.toGx clo ι W H x v → ArgsR G.toGx clo ι' W' H' x v
  | _, _, .nil => .nil
  | _, _, .cons a b => .cons (ArgR.mono (G := G) s a) (ArgsR.mono s b)
theorem ArgsR.length {clo : CloP} : ∀ {x : List Sl} {v : List V}, ArgsR G.toGx clo ι W H x v → x.length = v.length
  | _, _, .nil => rfl
  | _, _, .cons a b => by simp [ArgsR.length b]
theorem PreR.mono (s : Stp ι W H ι' W' H') {x : Sl} {v : V} (h : PreR G.toGx C σ ι W H x v) : PreR G.toGx C σ ι' W' H' x v := by
  cases x with
  | val d => exact Rp.mono s d v h
  | clo k cap =>
    obtain ⟨f, e, h⟩ := h
    refine ⟨f, e, ?_⟩
    rcases h with h | ⟨L, h0, h1, ws, js, h2, h3⟩
    · exact .inl (h.mono s)
    · exact .inr ⟨L, h0, h1.mono s, ws, js, Rps.mono s _ _ h2, h3⟩
  | _ => exact h
theorem PresR.mono (s : Stp ι W H ι' W' H') : ∀ {x : List Sl} {v : List V}, PresR G.toGx C σ ι W H x v → PresR G.toGx C σ ι' W' H' x v
  | _, _, .nil => .nil
  | _, _, .cons a b => .cons (PreR.mono (G := G) s a) (PresR.mono s b)
theorem PresR.length : ∀ {x : List Sl} {v : List V}, PresR G.toGx C σ ι W H x v → x.length = v.length
  | _, _, .nil => rfl
  | _, _, .cons a b => by simp [PresR.length b]
def isValB : Sl → Bool
  | .val _ => true
  | _ => false
/-- no functions among them -/
theorem PresR.vals {clo : CloP} : ∀ {x : List Sl} {v : List V}, x.all isValB = true → PresR G.toGx C σ ι W H x v → ArgsR G.toGx clo ι W H x v
  | _, _, _, .nil => .nil
  | s :: ss, _, h, .cons a b => by
    simp only [List.all_cons, and_tt] at h
    refine .cons ?_ (PresR.vals h.2 b)
    cases s <;> first | exact a | cases h.1
theorem StoR.monoW (s : Stp ι W H ι W' H) (h : StoR G.toGx ι W H st) : StoR G.toGx ι W' H st := ⟨h.len, h.nd, h.fl, fun n ds e => by
  obtain ⟨a, vs, e1, e2, e3⟩ := h.at_ n ds e
  exact ⟨a, vs, e1, e2, Rps.mono s ds vs e3⟩⟩
/-- seen from a callee: the frame's own lists are others' -/
def Zf (C : FCx) (ρ : Mini.Env) (σ : L2.St) : Addr → Prop := fun a => C.Z0 a ∨ OwnAt ρ σ a ∨ C.hid a
theorem Wz_eq : Wz ι (Zf C ρ σ) = Wr C ι ρ σ := rfl
theorem Rl.zok (R : Rl G.toGx C ρ st ι σ H) : ZOk G.toGx ι (Zf C ρ σ) H := by
  intro a z
  rcases z with z | z | z
  · refine ⟨R.zt z, fun m => ?_⟩
    obtain ⟨⟨o, e, _⟩, n0⟩ := R.snc.z a z
    have := R.snc.new a m n0
    rw [e] at this
    cases this
  · refine ⟨R.own_there z, ?_⟩
    obtain ⟨i, d, h1, h2⟩ := z
    exact (R.ownO i d a h1 h2).1
  · obtain ⟨h1, h2, _⟩ := R.hidO a z
    exact ⟨h1, h2⟩
/-- a call's reading, at the caller -/
theorem call_post {f : List Sl → Mini.Store → Res D} {np : Nat} {ss : List Sl} {vs : List V} {Q : VK} {outer : List Env} {s : Shared} (hl : vs.length = np) (R : Rl G.toGx C ρ st ι σ H) (a : ArgsR G.toGx (cloAt outer s H) ι (Wr C ι ρ σ) H ss vs)
    (q : PostE G C .strong ρ ι σ H (f ss st) Q) : SpC G f np outer s vs H Q C.EE := by
  refine ⟨hl, ss, st, ι, Zf C ρ σ, a, R.sto, R.zok, R.snc.tabs, ?_⟩
  cases e : f ss st with
  | ok d st' =>
    rw [e] at q
    exact fun v ι' H' S s' t r => q v ι' H' (R.after S s' t) S r
  | raise x st' =>
    rw [e] at q
    exact fun cls dx ι' H' S s' t r => q cls dx ι' H' (R.after S s' t) r
  | stuck => rw [e] at q; exact q
theorem ss_nil : PA X [] (tS G C fun _ st => .ok [] st) := paMono pa_nil fun σ H Q ⟨ρ, st, ι, R, q⟩ => q [] ι H R StpE.refl .nil
theorem val_conv {g : Ev} {Q : VK} (z : tS1 G C (fun ρ st => (g ρ st).bind fun d st1 => .ok (Sl.val d) st1) σ H Q) : tE G C .strong g σ H Q := by
  obtain ⟨ρ, st, ι, R, q⟩ := z
  refine ⟨ρ, st, ι, R, ?_⟩
  have q : PostS1 G C ρ ι σ H ((g ρ st).bind fun d st1 => .ok (Sl.val d) st1) Q := q
  cases e : g ρ st with
  | ok d st1 => rw [e] at q; exact fun v ι1 H1 a b c => q v ι1 H1 a b c
  | raise x st1 => rw [e] at q; exact q
  | stuck => rw [e] at q; exact q
theorem s1_val {e : Expr} {g : Ev} (h : PE X e (tE G C .strong g)) : PE X e (tS1 G C fun ρ st => (g ρ st).bind fun d st1 => .ok (Sl.val d) st1) := peMono h fun _ _ _ z => val_conv z
theorem cons_conv {ga : EvS1} {gs : EvS} {Q : List V → Hp → Prop} (z : tS G C (fun ρ st => (ga ρ st).bind fun d st1 => (gs ρ st1).bind fun ds st2 => .ok (d :: ds) st2) σ H Q) : tCons (tS1 G C ga) (tS G C gs) σ H Q := by
  obtain ⟨ρ, st, ι, R, q⟩ := z
  refine ⟨ρ, st, ι, R, ?_⟩
  have q : PostS G C ρ ι σ H ((ga ρ st).bind fun d st1 => (gs ρ st1).bind fun ds st2 => .ok (d :: ds) st2) Q := q
  cases e : ga ρ st with
  | ok d st1 =>
    rw [e] at q
    have q : PostS G C ρ ι σ H ((gs ρ st1).bind fun ds st2 => .ok (d :: ds) st2) Q := q
    intro v ι1 H1 R1 S1 w1
    refine ⟨ρ, st1, ι1, R1, ?_⟩
    cases e2 : gs ρ st1 with
    | ok ds st2 => rw [e2] at q; exact fun vs ι2 H2 R2 S2 w2 => q _ ι2 H2 R2 (S1.trans S2) (.cons (PreR.mono (G := G) S2.stp w1) w2)
    | raise x st2 => rw [e2] at q; exact q
    | stuck => rw [e2] at q; exact q
  | raise x st1 => rw [e] at q; exact q
  | stuck => rw [e] at q; exact q
theorem ss_cons {e : Expr} {es : List Expr} {ga : EvS1} {gs : EvS} (hn : NoStar e) (ha : PE X e (tS1 G C ga)) (hs : PA X es (tS G C gs)) :
    PA X (e :: es) (tS G C fun ρ st => (ga ρ st).bind fun d st1 => (gs ρ st1).bind fun ds st2 => .ok (d :: ds) st2) := paMono (pa_cons ha hs (star_cons hn es _)) fun _ _ _ z => cons_conv z
theorem plain_star {es : List Expr} (ns : ∀ e ∈ es, NoStar e) (pos : Pos) (env : Env) : (backTo pos (starEach es env)).any (·.1) = false := by
  induction es with
  | nil => rfl
  | cons e es ih =>
    rw [star_cons (ns e List.mem_cons_self) es env]
    exact ih fun e' h => ns e' (List.mem_cons_of_mem _ h)
/-- a call whose code keeps its word comes home -/
theorem came {pins : List (Addr × Obj)} {s : Shared} {Q : VK} {E : XK} {Xt : CXT} {us : List Value} {f : Addr} (hx : Passes Xt X E) (I : Inv X pins σ H s) (kept : codeAny (model X.prog X.w) X.A (.call (.ref f) ⟨us, []⟩) (CR Xt X.stack X.prog X.w H s Q E) s) :
    wpAny (model X.prog X.w) X.A (call (.ref f) us) (EP X pins σ Q) X.xe s :=
  wpAny_call (codeAny_mono kept fun
    | .error e, s', z => hx pins σ H s e s' I z
    | .ok (.ret _), _, z => I.after z
    | .ok .next, _, z => z.elim
    | .ok .brk, _, z => z.elim
    | .ok .cont, _, z => z.elim)
theorem run_fnC {pins : List (Addr × Obj)} {s : Shared} {Q : VK} {us : List Value} {vs : List V} {k : Nat} {f : Addr} {fd : FuncData} {ps : List Str} {sp : List Env → Shared → Sp} {E : XK} {Xt : CXT} (F : FnC X.prog X.w X.K X.mg X.base Xt k f fd ps sp) (hr : Room k X.A) (hb : Binds X.K fd ps []) (hx : Passes Xt X E)
    (I : Inv X pins σ H s) (r : Vals vs us) (h : sp X.stack s vs H Q E) : wpAny (model X.prog X.w) X.A (call (.ref f) us) (EP X pins σ Q) X.xe s := by
  have many : us.length = ps.length := r.length.symm.trans (F.len _ _ _ _ _ _ h)
  have bound := hb s us I.kIn (by simpa using many)
  exact came hx I (F.run X.A X.stack s H ⟨us, []⟩ us vs Q E hr I.env0 (by simpa using bound) r h)
/-- from what the arguments gave to what the callee gets -/
def Hands (G : Gy) (X : Cx) (C : FCx) (ss : List Sl) : Prop := ∀ (pins : List (Addr × Obj)) (σ : L2.St) (H : Hp) (s : Shared) (ι : List Addr) (W : Addr → Prop) (vs : List V), Inv X pins σ H s → PresR G.toGx C σ ι W H ss vs → ArgsR G.toGx (cloAt X.stack s H) ι W H ss vs
/-- f(e, ..), f a def, from a state: the arguments are read there -/
theorem se_call_at {e : Expr} {es : List Expr} {gs : EvS} {r : List Sl → Mini.Store → Res D} {np j : Nat} {f : Addr} {fd : FuncData} {ps : List Str} {x : Str} {p pos : Pos} (F : FnC X.prog X.w X.K X.mg X.base (L2N.CX X.prog X.w) j f fd ps (SpC G r np)) (hr : Room j X.A) (hg : Gl X x)
    (hm : X.mg x = some (.ref f)) (hk : PySem.W.keepIn X.K (.ref f) = true) (hb : Binds X.K fd ps []) (hx : Passes (L2N.CX X.prog X.w) X C.EE) (hdb : (x == ("__debug__" : Str)) = false) (ns : ∀ e' ∈ e :: es, NoStar e')
    (hl : ∀ ρ st ss st1, gs ρ st = .ok ss st1 → ss.length = np ∧ Hands G X C ss) {pins : List (Addr × Obj)} {s : Shared} {Q : VK} (I : Inv X pins σ H s) (t : tE G C .strong (fun ρ st => (gs ρ st).bind fun ss st1 => r ss st1) σ H Q)
    (run : ∀ Q', tS G C gs σ H Q' → wpAny (model X.prog X.w) X.A (spliced (backTo pos (starEach (e :: es) X.env))) (AP X pins σ Q') X.xe s) :
    wpAny (model X.prog X.w) X.A (eval (.Call (.Name x p) (e :: es) [] pos) X.env) (EP X pins σ Q) X.xe s := by
  obtain ⟨ρ, st, ι, R, q⟩ := t
  refine wpAny_Call_Name_kw (ld_glob I hg hm ?_ hdb)
  have q : PostE G C .strong ρ ι σ H ((gs ρ st).bind fun ss st1 => r ss st1) Q := q
  refine PySem.W.callWith_K (h₀ := X.base) I.ok.mod.kin hk ?_ (star_cons (ns e List.mem_cons_self) es _) (plain_star (fun e' h => ns e' (List.mem_cons_of_mem _ h)) _ _)
  refine thn (run (fun vs H1 => ∃ ss st1 ι1, gs ρ st = .ok ss st1 ∧ Rl G.toGx C ρ st1 ι1 σ H1 ∧ PresR G.toGx C σ ι1 (Wr C ι1 ρ σ) H1 ss vs ∧ PostE G C .strong ρ ι1 σ H1 (r ss st1) Q) ⟨ρ, st, ι, R, ?_⟩)
    fun us s1 ⟨vs, H1, I1, r1, ss, st1, ι1, e1, R1, w1, q1⟩ => ⟨I1.kIn, run_fnC F hr hb hx I1 r1 (call_post (by rw [← w1.length]; exact (hl _ _ _ _ e1).1) R1 ((hl _ _ _ _ e1).2 pins σ H1 s1 ι1 _ vs I1 w1) q1)⟩
  cases e1 : gs ρ st with
  | ok ss st1 => rw [e1] at q; exact fun vs ι1 H1 R1 S1 w1 => ⟨ss, st1, ι1, rfl, R1, w1, PostE.from S1 q⟩
  | raise x st1 => rw [e1] at q; exact q
  | stuck => rw [e1] at q; exact q
/-- f(e, ..), f a def -/
theorem se_call {e : Expr} {es : List Expr} {gs : EvS} {r : List Sl → Mini.Store → Res D} {np j : Nat} {f : Addr} {fd : FuncData} {ps : List Str} {x : Str} {p pos : Pos} (F : FnC X.prog X.w X.K X.mg X.base (L2N.CX X.prog X.w) j f fd ps (SpC G r np)) (hr : Room j X.A) (hg : Gl X x)
    (hm : X.mg x = some (.ref f)) (hk : PySem.W.keepIn X.K (.ref f) = true) (hb : Binds X.K fd ps []) (hx : Passes (L2N.CX X.prog X.w) X C.EE) (hdb : (x == ("__debug__" : Str)) = false) (ns : ∀ e' ∈ e :: es, NoStar e')
    (hl : ∀ ρ st ss st1, gs ρ st = .ok ss st1 → ss.length = np ∧ Hands G X C ss) (ha : PA X (e :: es) (tS G C gs)) :
    PE X (.Call (.Name x p) (e :: es) [] pos) (tE G C .strong fun ρ st => (gs ρ st).bind fun ss st1 => r ss st1) :=
  ⟨fun pins s σ H Q I t => se_call_at F hr hg hm hk hb hx hdb ns hl I t fun Q' z => ha.run pos pins s σ H Q' I z⟩
theorem se_call0 {r : List Sl → Mini.Store → Res D} {j : Nat} {f : Addr} {fd : FuncData} {ps : List Str} {x : Str} {p pos : Pos} (F : FnC X.prog X.w X.K X.mg X.base (L2N.CX X.prog X.w) j f fd ps (SpC G r 0)) (hr : Room j X.A) (hg : Gl X x)
    (hm : X.mg x = some (.ref f)) (hk : PySem.W.keepIn X.K (.ref f) = true) (hb : Binds X.K fd ps []) (hx : Passes (L2N.CX X.prog X.w) X C.EE) (hdb : (x == ("__debug__" : Str)) = false) :
    PE X (.Call (.Name x p) [] [] pos) (tE G C .strong fun ρ st => r [] st) := by
  refine ⟨fun pins s σ H Q I ⟨ρ, st, ι, R, q⟩ => wpAny_Call_Name_kw (ld_glob I hg hm ?_ hdb)⟩
  have q : PostE G C .strong ρ ι σ H (r [] st) Q := q
  exact PySem.W.callWith_K0 I.kIn hk (run_fnC (us := []) F hr hb hx I .nil (call_post rfl R .nil q))
end
end Snd
end
section
set_option maxRecDepth 100000
set_option maxHeartbeats 4000000
/-! Snd14: targets, what is walked. -/
namespace Snd
open PySem PySem.Spec PyProof.Rows L2
open Mini (D Sl Xc Res SRes Ex Ar Itr Stm Tgt)
section
variable {G : Gy} {C : FCx} {X : Cx} {n : Nat} {ι ι' : List Addr} {W W' : Addr → Prop} {H H' : Hp} {ρ ρ' : Mini.Env} {st st' : Mini.Store} {σ σ' : L2.St} {k : Kd}
/-! ### names are given values -/
theorem own_off {i : Nat} {x : Sl} {v : Option V} (hx : ∀ d, x ≠ .own d) {a : Addr} (h : OwnAt (ρ.set i x) (σ.set i v) a) : OwnAt ρ σ a := by
  obtain ⟨j, d, h1, h2⟩ := h
  by_cases e : i = j
  · subst e
    have hl : i < ρ.length := by
      have := (List.getElem?_eq_some_iff.mp h1).1
      rwa [List.length_set] at this
    rw [List.getElem?_set_self hl] at h1
    exact absurd (Option.some.inj h1) (hx d)
  · rw [List.getElem?_set_ne e] at h1 h2
    exact ⟨j, d, h1, h2⟩
theorem wr_off {i : Nat} {x : Sl} {v : Option V} (hx : ∀ d, x ≠ .own d) {a : Addr} (h : Wr C ι (ρ.set i x) (σ.set i v) a) : Wr C ι ρ σ a := by
  rcases h with h | h | h | h
  · exact .inl h
  · exact .inr (.inl h)
  · exact .inr (.inr (.inl (own_off hx h)))
  · exact .inr (.inr (.inr h))
theorem SlotR.anti {cells : List (Str × Addr)} {clo : CloP} (h : ∀ a, W' a → W a) {x : Sl} {v : Option (Option V)} (r : SlotR G.toGx cells clo ι W H x v) : SlotR G.toGx cells clo ι W' H x v :=
  r.mono (Snd.anti h) fun _ _ _ _ _ e => e
/-- a place is given what is not an own list -/
theorem Rl.setX {G : Gx} {i : Nat} {x : Sl} {v : Option V} (R : Rl G C ρ st ι σ H) (hx : ∀ d, x ≠ .own d) (hi : i < ρ.length) (hs : (∀ a, Wr C ι (ρ.set i x) (σ.set i v) a → Wr C ι ρ σ a) → SlotR G C.cells C.clo ι (Wr C ι (ρ.set i x) (σ.set i v)) H x (some v)) :
    Rl G C (ρ.set i x) st ι (σ.set i v) H := by
  have hw : ∀ a, Wr C ι (ρ.set i x) (σ.set i v) a → Wr C ι ρ σ a := fun a => wr_off hx
  have an : Stp ι (Wr C ι ρ σ) H ι (Wr C ι (ρ.set i x) (σ.set i v)) H := Snd.anti hw
  have hl : i < σ.length := by rw [R.len]; exact hi
  have off : ∀ (j : Nat) (d : D), (ρ.set i x)[j]? = some (Sl.own d) → i ≠ j ∧ ρ[j]? = some (Sl.own d) := fun j d e => by
    by_cases q : i = j
    · subst q
      rw [List.getElem?_set_self hi] at e
      exact absurd (Option.some.inj e) (hx d)
    · rw [List.getElem?_set_ne q] at e
      exact ⟨q, e⟩
  refine ⟨R.snc, by rw [List.length_set, List.length_set]; exact R.len, ⟨R.sto.len, R.sto.nd, R.sto.fl, fun m ds e => ?_⟩, fun j y e => ?_, fun j d a e1 e2 => ?_, fun j l d e a e1 e2 e3 e4 => ?_, R.hidO⟩
  · obtain ⟨a, vs, e1, e2, e3⟩ := R.sto.at_ m ds e
    exact ⟨a, vs, e1, e2, Rps.mono an ds vs e3⟩
  · by_cases q : i = j
    · subst q
      rw [List.getElem?_set_self hi] at e
      cases e
      rw [List.getElem?_set_self hl]
      exact hs hw
    · rw [List.getElem?_set_ne q] at e ⊢
      exact (R.slot j y e).mono an fun _ _ _ _ _ z => z
  · obtain ⟨q, e1⟩ := off j d e1
    rw [List.getElem?_set_ne q] at e2
    exact R.ownO j d a e1 e2
  · obtain ⟨q, e1⟩ := off j d e1
    obtain ⟨q2, e3⟩ := off l e e3
    rw [List.getElem?_set_ne q] at e2
    rw [List.getElem?_set_ne q2] at e4
    exact R.ownI j l d e a e1 e2 e3 e4
theorem Rl.setVal {G : Gx} {i : Nat} {d : D} {v : V} (R : Rl G C ρ st ι σ H) (hi : i < ρ.length) (h : Rp G ι (Wr C ι ρ σ) H d v) : Rl G C (ρ.set i (.val d)) st ι (σ.set i (some v)) H :=
  R.setX (fun _ z => by cases z) hi fun hw => ⟨v, rfl, Rp.mono (Snd.anti hw) d v h⟩

/-! ### targets -/
def Off (vs : List Nat) (σ σ' : L2.St) : Prop := ∀ ws : List Nat, (∀ i ∈ vs, i ∈ ws) → wipe σ' ws = wipe σ ws
theorem wipe_set {i : Nat} {v : Option V} {σ : L2.St} : ∀ {ws : List Nat}, i ∈ ws → wipe (σ.set i v) ws = wipe σ ws
  | w :: ws, h => by
    have key : ∀ (ws : List Nat) (σ : L2.St), i ∉ ws → wipe (σ.set i v) ws = (wipe σ ws).set i v := by
      intro ws
      induction ws with
      | nil => intro σ _; rfl
      | cons w ws ih =>
        intro σ hn
        unfold wipe
        rw [ih σ fun z => hn (List.mem_cons_of_mem _ z)]
        exact List.set_comm _ _ (fun z => hn (by rw [← z]; exact List.mem_cons_self))
    unfold wipe
    by_cases h2 : i ∈ ws
    · rw [wipe_set h2]
    · rcases List.mem_cons.mp h with rfl | h3
      · rw [key ws σ h2, List.set_set]
      · exact absurd h3 h2
section
variable (G : Gy)
def tG (C : FCx) (t : Tgt) : TG := fun v σ H Q => ∃ ρ st ι d ρ', Rl G.toGx C ρ st ι σ H ∧ Rp G.toGx ι (Wr C ι ρ σ) H d v ∧ Mini.bindT t d ρ = some ρ' ∧
  ∀ σ', Rl G.toGx C ρ' st ι σ' H → (∀ a, Wr C ι ρ' σ' a → Wr C ι ρ σ a) → Off (Mini.slotsT t) σ σ' → Q σ' H
def tGs (C : FCx) (ts : List Tgt) : TGs := fun vs σ H Q => ∃ ρ st ι ds ρ', Rl G.toGx C ρ st ι σ H ∧ Rps G.toGx ι (Wr C ι ρ σ) H ds vs ∧ Mini.bindT.bindTs ts ds ρ = some ρ' ∧
  ∀ σ', Rl G.toGx C ρ' st ι σ' H → (∀ a, Wr C ι ρ' σ' a → Wr C ι ρ σ a) → Off (Mini.slotsT.slotsTs ts) σ σ' → Q σ' H
end
theorem pgMono {e : Expr} {t t' : TG} (h : PG X e t) (k : ∀ v σ H Q, t' v σ H Q → t v σ H Q) : PG X e t' := ⟨fun pins s σ H v u Q I r q => h.run pins s σ H v u Q I r (k v σ H Q q)⟩
theorem pgsMono {e : List Expr} {t t' : TGs} (h : PGs X e t) (k : ∀ v σ H Q, t' v σ H Q → t v σ H Q) : PGs X e t' := ⟨fun pins s σ H v u Q I r q => h.run pins s σ H v u Q I r (k v σ H Q q)⟩
theorem sg_name {i : Nat} {x : Str} {pos : Pos} (hN : X.N.Nodup) (hi : X.N[i]? = some x) (hx : Loc X.env.scope x) (hf : X.fn x = true ∨ X.env.scope.names.lookup x = some .local) : PG X (.Name x pos) (tG G C (.name i)) := by
  refine pgMono (pg_name hN hi hx hf) fun v σ H Q ⟨ρ, st, ι, d, ρ', R, r, e, q⟩ => ?_
  have e : (if i < ρ.length then some (ρ.set i (.val d)) else none) = some ρ' := by unfold Mini.bindT at e; exact e
  split at e
  · rename_i hl
    cases e
    exact q _ (R.setVal hl r) (fun a => wr_off fun _ z => by cases z) fun ws hw => wipe_set (hw i (by unfold Mini.slotsT; exact List.mem_singleton.mpr rfl))
  · cases e
theorem sgs_nil : PGs X [] (tGs G C []) := pgsMono pgs_nil fun vs σ H Q ⟨ρ, st, ι, ds, ρ', R, r, e, q⟩ => by
  cases ds with
  | nil =>
    cases r
    have e : some ρ = some ρ' := by unfold Mini.bindT.bindTs at e; exact e
    cases e
    exact ⟨rfl, q σ R (fun _ z => z) fun _ _ => rfl⟩
  | cons d ds => unfold Mini.bindT.bindTs at e; cases e
theorem assign_cons {e : Expr} (h : NoStar e) (es : List Expr) (env : Env) : assignEach (e :: es) env = (false, assign e env) :: assignEach es env := by
  cases e <;> first | rfl | exact absurd rfl (h _ _)
theorem sgs_cons {e : Expr} {es : List Expr} {t : Tgt} {ts : List Tgt} (hn : NoStar e) (h1 : PG X e (tG G C t)) (h2 : PGs X es (tGs G C ts)) : PGs X (e :: es) (tGs G C (t :: ts)) :=
  pgsMono (pgs_cons h1 h2 (by rw [assign_cons hn]; rfl)) fun vs σ H Q ⟨ρ, st, ι, ds, ρ', R, r, e, q⟩ => by
    cases ds with
    | nil => unfold Mini.bindT.bindTs at e; cases e
    | cons d ds =>
      cases r with
      | cons r1 r2 =>
        have e : (Mini.bindT t d ρ).bind (Mini.bindT.bindTs ts ds) = some ρ' := by unfold Mini.bindT.bindTs at e; exact e
        obtain ⟨ρ1, e1, e2⟩ := Option.bind_eq_some_iff.mp e
        refine ⟨_, _, rfl, ρ, st, ι, d, ρ1, R, r1, e1, fun σ1 R1 w1 o1 => ⟨ρ1, st, ι, ds, ρ', R1, Rps.mono (Snd.anti w1) _ _ r2, e2, fun σ2 R2 w2 o2 => ?_⟩⟩
        refine q σ2 R2 (fun a z => w1 a (w2 a z)) fun ws hw => ?_
        have hw : ∀ i ∈ Mini.slotsT t ++ Mini.slotsT.slotsTs ts, i ∈ ws := by unfold Mini.slotsT.slotsTs at hw; exact hw
        rw [o2 ws fun i hi => hw i (List.mem_append_right _ hi), o1 ws fun i hi => hw i (List.mem_append_left _ hi)]
theorem binds_len : ∀ (ts : List Tgt) (ds : List D) (ρ ρ' : Mini.Env), Mini.bindT.bindTs ts ds ρ = some ρ' → ds.length = ts.length
  | [], [], _, _, _ => rfl
  | [], d :: ds, _, _, e => by unfold Mini.bindT.bindTs at e; cases e
  | t :: ts, [], _, _, e => by unfold Mini.bindT.bindTs at e; cases e
  | t :: ts, d :: ds, ρ, ρ', e => by
    have e : (Mini.bindT t d ρ).bind (Mini.bindT.bindTs ts ds) = some ρ' := by unfold Mini.bindT.bindTs at e; exact e
    obtain ⟨ρ1, _, e2⟩ := Option.bind_eq_some_iff.mp e
    simp [binds_len ts ds ρ1 ρ' e2]
theorem assign_plain {es : List Expr} (ns : ∀ e ∈ es, NoStar e) (env : Env) : (assignEach es env).length = es.length ∧ (assignEach es env).findIdx? (·.1) = none := by
  induction es with
  | nil => exact ⟨rfl, rfl⟩
  | cons e es ih =>
    obtain ⟨h1, h2⟩ := ih fun e' h => ns e' (List.mem_cons_of_mem _ h)
    rw [assign_cons (ns e List.mem_cons_self)]
    refine ⟨by simp [h1], ?_⟩
    rw [List.findIdx?_cons]
    simp [h2]
theorem sg_tup {es : List Expr} {ts : List Tgt} {j : Nat} {pos : Pos} (hX : XOk G X n) (ns : ∀ e ∈ es, NoStar e) (hl : es.length = ts.length) (h : PGs X es (tGs G C ts)) : PG X (.Tuple es j pos) (tG G C (.tup ts)) := by
  refine pgMono (pg_tup (n := es.length) hX.calm h (assign_plain ns _).1 (assign_plain ns _).2) fun v σ H Q ⟨ρ, st, ι, d, ρ', R, r, e, q⟩ => ?_
  cases d <;> first | (unfold Mini.bindT at e; cases e; done) | skip
  rename_i ds
  have e : Mini.bindT.bindTs ts ds ρ = some ρ' := by unfold Mini.bindT at e; exact e
  cases r with
  | tup h1 h2 =>
    have hq := h1.q
    rw [← hX.k] at hq
    exact ⟨_, _, rfl, hq, by rw [← h2.length, binds_len ts ds ρ ρ' e, hl], ρ, st, ι, ds, ρ', R, h2, e, fun σ' R' w' o' => q σ' R' w' (by unfold Mini.slotsT; exact o')⟩

/-! ### what is walked -/
section
variable (G : Gy)
/-- as long as nothing that may not be written is -/
def Goes (J : It) (xs : List D) (ι : List Addr) (W : Addr → Prop) (H : Hp) : Prop := ∃ (Gd : Hp → Prop) (Y : Nat → Hp → V → Hp → Prop), Walk J xs.length Gd Y ∧ ∀ ι2 W2 H2, Stp ι W H ι2 W2 H2 → (∀ p, W2 p → H2 p ≠ none) → Gd H2 ∧
  ∀ i x H', i < xs.length → Y i H2 x H' → (H' = H2 ∨ ∃ p o, H2 p = none ∧ H' = upd H2 p o) ∧ ∃ d, xs[i]? = some d ∧ Rp G.toGx ι2 W2 H' d x
def PostI (C : FCx) (ρ : Mini.Env) (ι : List Addr) (σ : L2.St) (H : Hp) (r : Res (List D)) (R : It → Hp → Prop) : Prop := match r with
  | .ok xs st' => ∀ J ι' H', Rl G.toGx C ρ st' ι' σ H' → StpE ι H ι' H' → Goes G J xs ι' (Wr C ι' ρ σ) H' → R J H'
  | .raise x st' => ∀ cls dx ι' H', Rl G.toGx C ρ st' ι' σ H' → ExcR G.ex H' x cls dx → C.EE cls dx H'
  | .stuck => False
def tI (C : FCx) (g : EvL) : TI := fun σ H R => ∃ ρ st ι, Rl G.toGx C ρ st ι σ H ∧ PostI G C ρ ι σ H (g ρ st) R
end
theorem PostI.from {r : Res (List D)} {Q : It → Hp → Prop} (S1 : StpE ι H ι' H') (q : PostI G C ρ ι σ H r Q) : PostI G C ρ ι' σ H' r Q := by
  cases r with
  | ok d st' => exact fun J ι2 H2 R2 S2 w => q J ι2 H2 R2 (S1.trans S2) w
  | raise x st' => exact q
  | stuck => exact q
theorem piMono {tg e : Expr} {t t' : TI} (h : PI X tg e t) (k : ∀ σ H Q, t' σ H Q → t σ H Q) : PI X tg e t' := ⟨fun pins s σ H R I q => h.run pins s σ H R I (k σ H R q)⟩
/-- a list, a tuple, a text -/
def iAny (K : PySem.W.Frag) (te : TE) : TI := fun σ H R => te σ H fun x H1 => (∃ a xs, x = .ref a ∧ SqL K H1 a xs ∧ R (Itl K a) H1) ∨ (∃ a xs, x = .ref a ∧ SqT K H1 a xs ∧ R (Itt K a) H1) ∨ ∃ z, x = .str z ∧ R (Its z) H1
/-- a value whose kind is known begins to be walked: what a source asks, its iterator's object, its turns -/
def Starts (X : Cx) (tg : Expr) (J : It) (v : Value) (H : Hp) : Prop := ∀ (pins : List (Addr × Obj)) (s : Shared) (σ : L2.St) (R : It → Hp → Prop) (E : Value → Shared → Prop), Inv X pins σ H s → R J H → wpAny (model X.prog X.w) X.A (pyIter v) (PIE X pins σ tg R) E s
theorem starts_list {X : Cx} {tg : Expr} {H : Hp} {a : Addr} {xs : List V} (h : SqL X.K H a xs) : Starts X tg (Itl X.K a) (.ref a) H := by
  intro pins s σ R E I r
  have ⟨its, _, pl, _⟩ := I.list h
  apply wpAny_pyIter_list pl.isList
  apply pi_one (tk := s.toks) I <;> first | exact r | exact ⟨_, Heap.get?_push_size _ rfl, rfl, rfl⟩ | exact turn_list a _
theorem starts_tuple {X : Cx} {tg : Expr} {H : Hp} {a : Addr} {xs : List V} (h : SqT X.K H a xs) : Starts X tg (Itt X.K a) (.ref a) H := by
  intro pins s σ R E I r
  have ⟨its, _, pl, _⟩ := I.tuple h
  apply wpAny_pyIter_tuple (items := its.toArray) pl
  apply pi_one (tk := s.toks) I <;> first | exact r | exact ⟨_, Heap.get?_push_size _ rfl, rfl, rfl⟩ | exact turn_tuple a _
theorem starts_text {X : Cx} {tg : Expr} {H : Hp} {z : Str} {t : Tok} : Starts X tg (Its z) (.str z t) H := by
  intro pins s σ R E I r
  by_cases narrow : z.cps.all (· < 128) = true
  · apply wpAny_pyIter_ascii narrow
    apply pi_one (tk := s.toks) I <;> first | exact r | exact ⟨_, Heap.get?_push_size _ rfl, rfl, rfl⟩ | exact turn_str _ z t _ (.inl rfl)
  · apply wpAny_pyIter_wide (eq_false_of_ne_true narrow)
    apply pi_one (tk := s.toks) I <;> first | exact r | exact ⟨_, Heap.get?_push_size _ rfl, rfl, rfl⟩ | exact turn_str _ z t _ (.inr rfl)
theorem pi_any {tg e : Expr} {te : TE} (h : PE X e te) : PI X tg e (iAny X.K te) := by
  constructor
  intro pins s σ H R I q
  refine thn (h.run pins s σ H _ I q) fun v s1 got => ?_
  obtain ⟨x, H1, I1, rv, kind⟩ := got
  rcases kind with ⟨a, xs, rfl, hl, r⟩ | ⟨a, xs, rfl, ht, r⟩ | ⟨z, rfl, r⟩
  · obtain rfl : v = .ref a := rv
    exact starts_list hl pins s1 σ R _ I1 r
  · obtain rfl : v = .ref a := rv
    exact starts_tuple ht pins s1 σ R _ I1 r
  · obtain ⟨t, rfl⟩ := rv
    exact starts_text pins s1 σ R _ I1 r

theorem tE_postI {k' : Kd} {ga : Ev} {Q : It → Hp → Prop} {Q' : VK} {gb : D → Mini.Store → Res (List D)} (R : Rl G.toGx C ρ st ι σ H) (q : PostI G C ρ ι σ H ((ga ρ st).bind gb) Q)
    (h : ∀ x st1 v ι1 H1, ga ρ st = .ok x st1 → Rl G.toGx C ρ st1 ι1 σ H1 → StpE ι H ι1 H1 → ResR G.toGx k' H ι1 (Wr C ι1 ρ σ) H1 x v → PostI G C ρ ι σ H (gb x st1) Q → Q' v H1) : tE G C k' ga σ H Q' := by
  refine ⟨ρ, st, ι, R, ?_⟩
  cases e : ga ρ st with
  | ok ds st1 => rw [e] at q; exact fun vs ι1 H1 a b c => h ds st1 vs ι1 H1 e a b c q
  | raise x st1 => rw [e] at q; exact q
  | stuck => rw [e] at q; exact q
theorem goes_list {a : Addr} {vs : List V} {ds : List D} (h : SqLs G.K W H a vs) (r : Rps G.toGx ι W H ds vs) : Goes G (Itl G.K a) ds ι W H := by
  refine ⟨_, _, by rw [r.length]; exact walk_list, fun ι2 W2 H2 S fr => ⟨(h.mono S).q, fun i x H' hi y => ?_⟩⟩
  obtain ⟨rfl, y⟩ := y
  obtain ⟨d, e, r'⟩ := Rps.getV (Rps.mono S _ _ r) y
  exact ⟨.inl rfl, d, e, r'⟩
theorem goes_tup {a : Addr} {vs : List V} {ds : List D} (h : SqTs G.K W H a vs) (r : Rps G.toGx ι W H ds vs) : Goes G (Itt G.K a) ds ι W H := by
  refine ⟨_, _, by rw [r.length]; exact walk_tup, fun ι2 W2 H2 S fr => ⟨(h.mono S).q, fun i x H' hi y => ?_⟩⟩
  obtain ⟨rfl, y⟩ := y
  obtain ⟨d, e, r'⟩ := Rps.getV (Rps.mono S _ _ r) y
  exact ⟨.inl rfl, d, e, r'⟩
theorem goes_str {s : List Nat} (h : ∀ c ∈ s, c < 1114112) : Goes G (Its (sS s)) (s.map fun c => D.str [c]) ι W H := by
  refine ⟨_, _, by rw [List.length_map, ← sS_length s]; exact walk_str, fun ι2 W2 H2 S fr => ⟨trivial, fun i x H' hi y => ?_⟩⟩
  obtain ⟨rfl, c, hc, rfl⟩ := y
  rw [← Array.getElem?_toList, sS_cps] at hc
  refine ⟨.inl rfl, .str [c], by rw [List.getElem?_map, hc]; rfl, .str [c] (fun c' hc' => ?_) (by rw [sizeLine_eq]; exact Nat.le_of_ble_eq_true rfl)⟩
  rw [List.mem_singleton.mp hc']
  exact h c (List.mem_of_getElem? hc)
theorem goes_range {lo : Int} {m : Nat} : Goes G (Itr lo m) ((List.range m).map fun (k : Nat) => D.int (lo + (k : Int))) ι W H := by
  refine ⟨_, _, by rw [List.length_map, List.length_range]; exact walk_range, fun ι2 W2 H2 S fr => ⟨trivial, fun i x H' hi y => ?_⟩⟩
  obtain ⟨rfl, rfl⟩ := y
  rw [List.length_map, List.length_range] at hi
  exact ⟨.inl rfl, .int (lo + i), by rw [List.getElem?_map, List.getElem?_range hi]; rfl, .int _⟩
theorem items_inv {x : D} {xs : List D} (h : Mini.items x = some xs) : x = .lst xs ∨ x = .tup xs ∨ ∃ s, x = .str s ∧ xs = s.map fun c => D.str [c] := by
  cases x <;> first | (exact absurd (show (none : Option (List D)) = some xs from h) (by simp)) | skip
  · exact .inr (.inr ⟨_, rfl, (Option.some.inj h).symm⟩)
  · exact .inr (.inl (by rw [Option.some.inj h]))
  · exact .inl (by rw [Option.some.inj h])
theorem si_any {tg e : Expr} {g : Ev} (hX : XOk G X n) (h : PE X e (tE G C .strong g)) : PI X tg e (tI G C fun ρ st => (g ρ st).bind fun x st1 => Mini.lift (Mini.items x) st1) := by
  refine piMono (pi_any h) fun σ H Q ⟨ρ, st, ι, R, q⟩ => tE_postI R q fun x st1 v ι1 H1 e1 R1 S1 w1 q1 => ?_
  cases hi : Mini.items x with
  | none => rw [hi] at q1; exact q1.elim
  | some xs =>
    rw [hi] at q1
    have w1 : Rp G.toGx ι1 (Wr C ι1 ρ σ) H1 x v := w1
    rcases items_inv hi with rfl | rfl | ⟨s, rfl, rfl⟩
    · cases w1 with
      | lst h1 h2 =>
        rw [hX.k]
        exact .inl ⟨_, _, rfl, h1.q, q1 _ ι1 H1 R1 S1 (goes_list h1 h2)⟩
    · cases w1 with
      | tup h1 h2 =>
        rw [hX.k]
        exact .inr (.inl ⟨_, _, rfl, h1.q, q1 _ ι1 H1 R1 S1 (goes_tup h1 h2)⟩)
    · cases w1 with
      | str _ h1 h2 => exact .inr (.inr ⟨_, rfl, q1 _ ι1 H1 R1 S1 (goes_str h1)⟩)
end
end Snd
end
section
set_option maxRecDepth 100000
set_option maxHeartbeats 4000000
/-! SndE: enumerate over a tuple. -/
namespace Snd
open PySem PySem.Spec PyProof.Rows L2
/-- what enumerate(v) makes beside v's iterator -/
def enumCell (it : Addr) : Obj := { cls := .type "enumerate", data := .fields #[.none, .bool false, .ref it, rawInt 0, .none, .none] }
theorem enum_new1 {v : Value} {cell : Obj} {Start : Heap → Prop} (B : Begins v cell Start) :
    Meets (Builtin.«enumerate.__new__» ⟨[.type "enumerate", v], []⟩) (fun _ R s => Start s.heap ∧ R (.ok (.ret (.ref (s.heap.push cell).objs.size))) { s with heap := (s.heap.push cell).push (enumCell s.heap.objs.size) }) :=
  .of_wp fun prog w A R s ⟨beg, goal⟩ => by
    have iter1 : ∀ {A' : Around} {E Q : Value → Shared → Prop}, Q (.ref s.heap.objs.size) { s with heap := s.heap.push cell } → wpAny (model prog w) A' (pyIter v) Q E s := fun z => B.iter prog w _ _ s _ beg z
    have known := sub_enumerate
    obtain ⟨hp, glo, dbg, toks, os⟩ := s
    wp_walk using iter1
    refine wpAny_stack_any fun _ => wpAny_pure ?_
    split
    · rename_i k _ _ _ _ _
      cases (k == Value.type "enumerate") <;>
      · wp_walk using iter1
        exact ⟨_, rfl, goal⟩
    · wp_walk using iter1
      exact ⟨_, rfl, goal⟩
/-- enumerate(v), v's iterator told -/
theorem call_enum1 {prog : Program} {w : World} {A : Around} {E : Value → Shared → Prop} {s : Shared} {v : Value} {cell : Obj} {Start : Heap → Prop} {Q : Value → Shared → Prop} (B : Begins v cell Start) (beg : Start s.heap)
    (out : ∀ h2, IsEnum h2 (s.heap.objs.size + 1) s.heap.objs.size 0 .none → h2.get? s.heap.objs.size = some cell → (∀ b o, s.heap.get? b = some o → h2.get? b = some o) → Q (.ref (s.heap.objs.size + 1)) { s with heap := h2 }) :
    wpAny (model prog w) A (call (.type "enumerate") [v]) Q E s := by
  have two : ((s.heap.push cell).push (enumCell s.heap.objs.size)).get? (s.heap.objs.size + 1) = some (enumCell s.heap.objs.size) := by
    have := Heap.get?_push_size (s.heap.push cell) (o := enumCell s.heap.objs.size) rfl
    rwa [Heap.size_push] at this
  have back : ∀ b o, s.heap.get? b = some o → ((s.heap.push cell).push (enumCell s.heap.objs.size)).get? b = some o := fun b o z => Heap.get?_push_of_some _ (Heap.get?_push_of_some _ z)
  have fin := out _ two (Heap.get?_push_of_some _ (Heap.get?_push_size _ B.free)) back
  refine callType_new F.called_enumerate (by decide) (F.typeCall_enumerate_1 v) (F.newCall_enumerate_1 v) (fun obj => F.args_object_init_2 obj v) F.entry_enumerate_new (enum_new1 B) ⟨beg, ?_⟩
  refine ⟨⟨enumCell s.heap.objs.size, ?_, rfl⟩, ?_⟩ <;> rw [Heap.size_push]
  · exact two
  · exact fin
/-- the tuple at a, turn by turn, in new pairs -/
def IteT (K : PySem.W.Frag) (a : Addr) : It where
  go := fun i H => ∃ (xs : List V) (x : V), SqT K H a xs ∧ xs[i]? = some x
  yld := fun i H v H' => ∃ T x, v = .ref T ∧ H T = none ∧ H' = upd H T (.tup [.int (i : Nat), x]) ∧ ∀ xs, SqT K H a xs → xs[i]? = some x
  stop := fun i H => ∃ xs : List V, SqT K H a xs ∧ xs.length ≤ i
theorem turn_enumT {P : Program} {w : World} {K : PySem.W.Frag} {elts : List Expr} {kk : Nat} {tpos : Pos} {a e it : Addr} (ne : a ≠ it) (nea : a ≠ e) :
    Turn P w K (.Tuple elts kk tpos) (IteT K a) [e, it] e (fun i h => (∃ was, IsEnum h e it ((i : Nat) : Int) was) ∧ h.IsTupleIter it a i ∧ e ≠ it) where
  mem := List.mem_cons_self
  obj := by
    rintro i h ⟨⟨was, en⟩, ⟨o, ho, _, hd⟩, _⟩ b hb
    rcases List.mem_cons.mp hb with rfl | hb
    · exact ⟨_, en, fun v z => by cases z⟩
    · rw [List.mem_singleton.mp hb]
      exact ⟨o, ho, fun v z => by rw [hd] at z; cases z⟩
  keep := by
    rintro i h h' ⟨⟨was, en⟩, ti, ne⟩ same
    exact ⟨⟨was, same e List.mem_cons_self _ en⟩, ti.at fun o z => same it (by simp) o z, ne⟩
  item := by
    rintro X rfl rfl rfl calm i pins s σ H E I new ⟨⟨was, en⟩, ti, ei⟩ ⟨xs, x, sq, hx⟩
    obtain ⟨its, vals, tu, _⟩ := I.tuple sq
    obtain ⟨u, hu, ru⟩ := vals.get hx
    have lt : i < its.toArray.size := by simpa using (List.getElem?_eq_some_iff.mp hu).1
    have le : e < s.heap.objs.size := Heap.lt_size en
    have lit : it < s.heap.objs.size := let ⟨_, q, _⟩ := ti; Heap.lt_size q
    have D := Draws.tuple (prog := X.prog) (w := X.w) (A := X.A.in1) (I.ok.hd calm) it a ne its.toArray
    have apart : e ∉ [it, a] := by simp [ei, Ne.symm nea]
    refine wpAny_pyNext_enum_itemD D en ⟨ti, tu⟩ lt ei apart fun y h1 tk hy en1 st1 hT hsz old => ?_
    obtain rfl : y = u := by
      have : its.toArray[i]? = some u := by simpa using hu
      exact Option.some.inj (hy.symm.trans this)
    refine ⟨_, rfl, wpAny_letOwnedTupleGo_enum (s := { s with heap := h1, toks := tk + 1 }) en1 fun h2 en2 sb => ?_⟩
    have fresh : H s.heap.objs.size = none := I.hok.fresh (Nat.le_refl _)
    have pair : h2.get? s.heap.objs.size = some { cls := .type "tuple", data := .seq #[.int i tk, y] } := (sb.2 _ (Nat.ne_of_gt le)).trans hT
    have okT : ObjOk X.prog X.w (upd H s.heap.objs.size (.tup [.int (i : Nat), x])) h2 s.heap.objs.size (.tup [.int (i : Nat), x]) := by
      refine ⟨?_, [.int i tk, y], .cons ⟨_, rfl⟩ (.cons ru .nil), _, pair, rfl, _, rfl⟩
      show 2 ≤ sizeLine
      decide
    have same : ∀ b o, b ∉ [e, it] → s.heap.get? b = some o → h2.get? b = some o := fun b o nb z => (sb.2 b fun q => nb (by simp [q])).trans (old b o (fun q => nb (by simp [q])) (fun q => nb (by simp [q])) z)
    refine ⟨.ref s.heap.objs.size, _, I.turnedNew (t' := tk + 1) (ch := [e, it]) same new (Nat.le_refl _) okT, rfl, ⟨_, x, rfl, fresh, rfl, fun ys hy => by rw [I.tuple_inj hy sq]; exact hx⟩, ⟨⟨y, ?_⟩, st1.1.at fun o z => (sb.2 it (Ne.symm ei)).trans z, ei⟩, fun b hb => ?_⟩
    · rw [show (((i + 1 : Nat)) : Int) = (i : Int) + 1 by omega]
      exact en2
    · have lb : b < s.heap.objs.size := by
        rcases List.mem_cons.mp hb with rfl | hb
        · exact le
        · rw [List.mem_singleton.mp hb]; exact lit
      rw [upd_ne (Nat.ne_of_lt lb)]
      exact (new b hb).1
  done := by
    rintro X rfl rfl rfl calm i pins s σ H E I new ⟨⟨was, en⟩, ti, ei⟩ ⟨xs, sq, long⟩
    obtain ⟨its, vals, tu, _⟩ := I.tuple sq
    have hl := vals.length
    obtain ⟨f0, f1, f2, f3, f4, f5⟩ := new it (by simp)
    have hT : s.TypeIs (.ref e) "enumerate" := ⟨_, en, rfl⟩
    unfold pyNext
    refine wpAny_bind (wpAny_attempt (wpAny_callSpecial?_slot (name := Str.ofString "__next__") hT F.slot_enumerate_next (wpAny_call_entry F.slot_enumerate_next hT F.entry_enumerate_next ?_ (F.args_enumerate_next_1 _))))
    show wpAny _ _ (field (.ref e) 2 >>= _) _ _ _
    refine wpAny_bind (wpAny_field en rfl (x := .ref it) rfl (wpAny_bind (wpAny_nextOf_tuple_end (I.ok.hd calm) ti tu (by simp; omega) fun h2 x more ⟨o, ho, hc⟩ => ?_)))
    exact wpAny_bind (wpAny_isInstance (T := "StopIteration") (b := true) ⟨o, ho, hc⟩ isSubtype_stop (wpAny_pure ⟨rfl, I.turned (t' := s.toks) (fun b o hb z => more b o hb z) f0 f1 f3 f4 f5⟩))
  self := fun A i s Q E ⟨⟨_, en⟩, _⟩ h => wpAny_pyIter_enum en h
/-- enumerate(e), e a tuple -/
def iEnumT (K : PySem.W.Frag) (ta : TA) : TI := fun σ H R => ta σ H fun vs H1 => ∃ a xs, vs = [.ref a] ∧ ((SqL K H1 a xs ∧ R (Ite K a) H1) ∨ (SqT K H1 a xs ∧ R (IteT K a) H1))
theorem pi_enumT {X : Cx} {e : Expr} {ta : TA} {p pos tpos : Pos} {elts : List Expr} {kk : Nat} (hg : Gl X "enumerate") (hm : X.mg "enumerate" = none) (ha : PA X [e] ta) (hs : starEach [e] X.env = [(false, eval e X.env)]) :
    PI X (.Tuple elts kk tpos) (.Call (.Name "enumerate" p) [e] [] pos) (iEnumT X.K ta) := by
  refine ⟨fun pins s σ H R I h => Call_ (ld_blt I hg hm boot_enumerate (PyProof.Rows.callWith_type1 (thn (ha.run pos pins s σ H _ I h) fun us s1 ⟨vs, H1, I1, r1, a, xs, ex, q⟩ => ?_) hs rfl))⟩
  subst ex
  obtain ⟨u, rfl, ru⟩ : ∃ u, us = [u] ∧ RelV (.ref a) u := by
    cases r1 with
    | cons r rr => cases rr; exact ⟨_, rfl, r⟩
  obtain rfl : u = .ref a := ru
  have new : ∀ b ∈ [s1.heap.objs.size + 1, s1.heap.objs.size], FpOk X pins H1 b := fun b hb => by
    have hle : s1.heap.objs.size ≤ b := by simp at hb; omega
    exact I1.fpOk hle (I1.hok.fresh hle)
  rcases q with ⟨sq, q⟩ | ⟨sq, q⟩
  · obtain ⟨its, vals, ls, _⟩ := I1.list sq
    refine call_enum1 (begins_list a its.toArray) ls.isList fun h2 en it2 old => wpAny_pyIter_enum en ?_
    exact ⟨_, _, _, _, H1, rfl, I1.kept (t' := s1.toks) old, turn_enum a (s1.heap.objs.size + 1) s1.heap.objs.size, ⟨⟨.none, en⟩, ⟨_, it2, rfl, rfl⟩, Nat.succ_ne_self _⟩, new, q⟩
  · obtain ⟨its, vals, tu, _⟩ := I1.tuple sq
    have la : a < s1.heap.objs.size := let ⟨_, z, _⟩ := tu; Heap.lt_size z
    refine call_enum1 (begins_tuple a its.toArray) tu fun h2 en it2 old => wpAny_pyIter_enum en ?_
    exact ⟨_, _, _, _, H1, rfl, I1.kept (t' := s1.toks) old, turn_enumT (a := a) (e := s1.heap.objs.size + 1) (it := s1.heap.objs.size) (Nat.ne_of_lt la) (Nat.ne_of_lt (Nat.lt_succ_of_lt la)), ⟨⟨.none, en⟩, ⟨_, it2, rfl, rfl⟩, Nat.succ_ne_self _⟩, new, q⟩
end Snd
end
section
set_option maxRecDepth 100000
set_option maxHeartbeats 4000000
/-! Snd15: range, enumerate, zip walked; list comprehensions. -/
namespace Snd
open PySem PySem.Spec PyProof.Rows L2
open Mini (D Sl Xc Res SRes Ex Ar Itr Stm Tgt)
section
variable {G : Gy} {C : FCx} {X : Cx} {n : Nat} {ι ι' : List Addr} {W W' : Addr → Prop} {H H' : Hp} {ρ ρ' : Mini.Env} {st st' : Mini.Store} {σ σ' : L2.St} {k : Kd}
theorem line62 {a : Int} (h : a ≤ Mini.line) : a < 2 ^ 62 := by
  have : ((Mini.line : Nat) : Int) = 16777216 := rfl
  omega
theorem line62' {a : Int} (h : -(Mini.line : Int) ≤ a) : -(2 ^ 62) ≤ a := by
  have : ((Mini.line : Nat) : Int) = 16777216 := rfl
  omega
theorem range_inv1 {y : D} {xs : List D} (h : Mini.rangeD none y = some xs) : ∃ m : Int, y = .int m ∧ m ≤ Mini.line ∧ -(Mini.line : Int) ≤ m ∧ xs = (List.range m.toNat).map fun (k : Nat) => D.int (k : Int) := by
  cases y <;> first | (exact absurd (show (none : Option (List D)) = some xs from h) (by simp)) | skip
  rename_i m
  have h : (if decide (m ≤ Mini.line) && decide (-(Mini.line : Int) ≤ m) then some ((List.range m.toNat).map fun (k : Nat) => D.int (k : Int)) else none) = some xs := h
  split at h
  · rename_i c
    simp only [Bool.and_eq_true, decide_eq_true_eq] at c
    exact ⟨m, rfl, c.1, c.2, (Option.some.inj h).symm⟩
  · cases h
theorem range_inv2 {l : Int} {y : D} {xs : List D} (h : Mini.rangeD (some l) y = some xs) :
    ∃ m : Int, y = .int m ∧ (m ≤ Mini.line ∧ -(Mini.line : Int) ≤ m ∧ l ≤ Mini.line ∧ -(Mini.line : Int) ≤ l) ∧ xs = (List.range (m - l).toNat).map fun (k : Nat) => D.int (l + (k : Int)) := by
  cases y <;> first | (exact absurd (show (none : Option (List D)) = some xs from h) (by simp)) | skip
  rename_i m
  have h : (if decide (m ≤ Mini.line) && decide (-(Mini.line : Int) ≤ m) && decide (l ≤ Mini.line) && decide (-(Mini.line : Int) ≤ l) then some ((List.range (m - l).toNat).map fun (k : Nat) => D.int (l + (k : Int))) else none) = some xs := h
  split at h
  · rename_i c
    simp only [Bool.and_eq_true, decide_eq_true_eq] at c
    exact ⟨m, rfl, ⟨c.1.1.1, c.1.1.2, c.1.2, c.2⟩, (Option.some.inj h).symm⟩
  · cases h
theorem si_range1 {tg a : Expr} {g : Ev} {k1 : Kd} {p pos : Pos} (hg : Gl X "range") (hm : X.mg "range" = none) (ns : NoStar a) (h : PE X a (tE G C k1 g)) :
    PI X tg (.Call (.Name "range" p) [a] [] pos) (tI G C fun ρ st => (g ρ st).bind fun y st2 => Mini.lift (Mini.rangeD none y) st2) := by
  refine piMono (pi_range1 hg hm (pa_cons h pa_nil (star_cons ns _ _)) (star_cons ns _ _)) fun σ H Q ⟨ρ, st, ι, R, q⟩ => tE_postI R q fun x st1 v ι1 H1 e1 R1 S1 w1 q1 => ?_
  cases hi : Mini.rangeD none x with
  | none => rw [hi] at q1; exact q1.elim
  | some xs =>
    rw [hi] at q1
    obtain ⟨m, rfl, h1, h2, rfl⟩ := range_inv1 hi
    have e : ((List.range m.toNat).map fun (k : Nat) => D.int (k : Int)) = (List.range m.toNat).map fun (k : Nat) => D.int (0 + (k : Int)) := List.map_congr_left fun k _ => by rw [Int.zero_add]
    rw [e] at q1
    exact ⟨m, by rw [w1.weak.int], line62' h2, line62 h1, q1 _ ι1 H1 R1 S1 goes_range⟩
theorem si_range2 {tg a b : Expr} {ga gb : Ev} {k1 k2 : Kd} {p pos : Pos} (hg : Gl X "range") (hm : X.mg "range" = none) (na : NoStar a) (nb : NoStar b) (ha : PE X a (tE G C k1 ga)) (hb : PE X b (tE G C k2 gb)) :
    PI X tg (.Call (.Name "range" p) [a, b] [] pos) (tI G C fun ρ st => ((ga ρ st).bind fun d st1 => Mini.lift (Mini.intO d) st1).bind fun x st1 => (gb ρ st1).bind fun y st2 => Mini.lift (Mini.rangeD x y) st2) := by
  refine piMono (pi_range2 hg hm (pa_cons ha (pa_cons hb pa_nil (star_cons nb _ _)) (star_cons na _ _)) (by rw [star_cons na, star_cons nb]; rfl) (star_cons nb _ _)) fun σ H Q ⟨ρ, st, ι, R, q⟩ => ?_
  dsimp only at q
  rw [bind_assoc] at q
  refine tE_postI R q fun x st1 v ι1 H1 e1 R1 S1 w1 q1 => ?_
  cases hi : Mini.intO x with
  | none => rw [hi] at q1; exact q1.elim
  | some o =>
    rw [hi] at q1
    obtain ⟨i, rfl, rfl⟩ := intO_inv hi
    refine tE_postI R1 (PostI.from S1 q1) fun y st2 v2 ι2 H2 e2 R2 S2 w2 q2 => ?_
    cases hi2 : Mini.rangeD (some i) y with
    | none => rw [hi2] at q2; exact q2.elim
    | some xs =>
      rw [hi2] at q2
      obtain ⟨m, rfl, ⟨h1, h2, h3, h4⟩, rfl⟩ := range_inv2 hi2
      exact ⟨i, m, by rw [w1.weak.int, w2.weak.int], ⟨line62' h4, line62 h3, line62' h2, line62 h1⟩, q2 _ ι2 H2 R2 S2 goes_range⟩
/-! ### enumerate, zip -/
theorem enumL_get : ∀ (xs : List D) (m i : Nat) (d : D), xs[i]? = some d → (Mini.enumL m xs)[i]? = some (.tup [.int ((m + i : Nat) : Int), d])
  | [], _, i, _, e => by simp at e
  | x :: xs, m, 0, d, e => by simp at e; subst e; rfl
  | x :: xs, m, i + 1, d, e => by
    have := enumL_get xs (m + 1) i d (by simpa using e)
    rw [show m + 1 + i = m + (i + 1) by omega] at this
    simpa [Mini.enumL] using this
theorem enumL_length : ∀ (xs : List D) (m : Nat), (Mini.enumL m xs).length = xs.length
  | [], _ => rfl
  | x :: xs, m => by simp [Mini.enumL, enumL_length xs (m + 1)]
theorem zip_get : ∀ {as bs : List D} {i : Nat} {d e : D}, as[i]? = some d → bs[i]? = some e → (as.zip bs)[i]? = some (d, e)
  | [], _, i, _, _, h, _ => by simp at h
  | a :: as, [], i, _, _, _, h => by simp at h
  | a :: as, b :: bs, 0, _, _, h, h2 => by simp at h h2; simp [h, h2]
  | a :: as, b :: bs, i + 1, _, _, h, h2 => by
    have := zip_get (as := as) (bs := bs) (i := i) (by simpa using h) (by simpa using h2)
    simpa using this
theorem pair_new {p : Addr} {x y : V} {d e : D} (hp : H p = none) (nw : ¬ W p) (fr : ∀ p, W p → H p ≠ none) (h1 : Rp G.toGx ι W H d x) (h2 : Rp G.toGx ι W H e y) : Rp G.toGx ι W (upd H p (.tup [x, y])) (.tup [d, e]) (.ref p) := by
  have S : Stp ι W H ι W (upd H p (.tup [x, y])) := ⟨⟨[], by simp⟩, fun a o q _ _ => by rw [upd_ne (ne_of_none q hp)]; exact q, fun a z => .inl z, fun a z => by
    by_cases q : a = p
    · rw [q, upd_same]; simp
    · rw [upd_ne q]; exact z⟩
  exact .tup (.inl ⟨.inl upd_same, nw⟩) (.cons (Rp.mono S _ _ h1) (.cons (Rp.mono S _ _ h2) .nil))
theorem goes_enum {a : Addr} {vs : List V} {ds : List D} (h : SqLs G.K W H a vs) (r : Rps G.toGx ι W H ds vs) : Goes G (Ite G.K a) (Mini.enumL 0 ds) ι W H := by
  refine ⟨_, _, by rw [enumL_length, r.length]; exact walk_enum, fun ι2 W2 H2 S fr => ⟨(h.mono S).q, fun i x H' hi y => ?_⟩⟩
  obtain ⟨T, u, v, rfl, hT, rfl, hu, hv⟩ := y
  obtain ⟨d, e, r'⟩ := Rps.getV (Rps.mono S _ _ r) hv
  cases hu
  refine ⟨.inr ⟨T, _, hT, rfl⟩, _, enumL_get ds 0 i d e, ?_⟩
  rw [Nat.zero_add]
  exact pair_new hT (fun z => fr T z hT) fr (.int _) r'
theorem goes_zip {a b : Addr} {vs us : List V} {ds es : List D} (h : SqLs G.K W H a vs) (r : Rps G.toGx ι W H ds vs) (h2 : SqLs G.K W H b us) (r2 : Rps G.toGx ι W H es us) : Goes G (Itz G.K a b) ((ds.zip es).map fun p => D.tup [p.1, p.2]) ι W H := by
  refine ⟨_, _, walk_zip (xs := vs) (ys := us) (by rw [List.length_map, List.length_zip, r.length, r2.length]), fun ι2 W2 H2 S fr => ⟨⟨(h.mono S).q, (h2.mono S).q⟩, fun i x H' hi y => ?_⟩⟩
  obtain ⟨T, u, v, rfl, hT, rfl, hu, hv⟩ := y
  obtain ⟨d, e1, r1'⟩ := Rps.getV (Rps.mono S _ _ r) hu
  obtain ⟨d2, e2, r2'⟩ := Rps.getV (Rps.mono S _ _ r2) hv
  refine ⟨.inr ⟨T, _, hT, rfl⟩, .tup [d, d2], ?_, pair_new hT (fun z => fr T z hT) fr r1' r2'⟩
  rw [List.getElem?_map, zip_get e1 e2]
  rfl
theorem walk_zipT' {K : Frag} {a b : Addr} {xs ys : List V} {m : Nat} (hn : m = min xs.length ys.length) : Walk (RZ.ItzT K a b) m (fun H => SqT K H a xs ∧ SqT K H b ys) (YPair (fun i => xs[i]?) (fun i => ys[i]?)) := by
  subst hn
  constructor
  · intro i H hi q
    exact ⟨xs, ys, xs[i]'(by omega), ys[i]'(by omega), q.1, q.2, by simp, by simp⟩
  · intro H q
    exact ⟨xs, ys, q.1, q.2, by omega⟩
  · intro i H v H' _ q y
    obtain ⟨T, x, z, k1, k2, k3, k4, k5⟩ := y
    exact ⟨T, x, z, k1, k2, k3, k4 _ q.1, k5 _ q.2⟩
theorem goes_zipT {a b : Addr} {vs us : List V} {ds es : List D} (h : SqTs G.K W H a vs) (r : Rps G.toGx ι W H ds vs) (h2 : SqTs G.K W H b us) (r2 : Rps G.toGx ι W H es us) : Goes G (RZ.ItzT G.K a b) ((ds.zip es).map fun p => D.tup [p.1, p.2]) ι W H := by
  refine ⟨_, _, walk_zipT' (xs := vs) (ys := us) (by rw [List.length_map, List.length_zip, r.length, r2.length]), fun ι2 W2 H2 S fr => ⟨⟨(h.mono S).q, (h2.mono S).q⟩, fun i x H' hi y => ?_⟩⟩
  obtain ⟨T, u, v, rfl, hT, rfl, hu, hv⟩ := y
  obtain ⟨d, e1, r1'⟩ := Rps.getV (Rps.mono S _ _ r) hu
  obtain ⟨d2, e2, r2'⟩ := Rps.getV (Rps.mono S _ _ r2) hv
  refine ⟨.inr ⟨T, _, hT, rfl⟩, .tup [d, d2], ?_, pair_new hT (fun z => fr T z hT) fr r1' r2'⟩
  rw [List.getElem?_map, zip_get e1 e2]
  rfl
theorem enumD_inv {x : D} {xs : List D} (h : Mini.enumD x = some xs) : ∃ ys, (x = .lst ys ∨ x = .tup ys) ∧ xs = Mini.enumL 0 ys := by
  cases x <;> first | (exact absurd (show (none : Option (List D)) = some xs from h) (by simp)) | skip
  · exact ⟨_, .inr rfl, (Option.some.inj h).symm⟩
  · exact ⟨_, .inl rfl, (Option.some.inj h).symm⟩
theorem walk_enumT {K : Frag} {a : Addr} {xs : List V} : Walk (IteT K a) xs.length (fun H => SqT K H a xs) (YPair (fun i => some (.int (i : Nat))) (fun i => xs[i]?)) where
  goes := fun i H hi q => ⟨xs, xs[i], q, List.getElem?_eq_getElem hi⟩
  stops := fun H q => ⟨xs, q, Nat.le_refl _⟩
  yields := fun i H v H' _ q ⟨T, x, e1, e2, e3, e4⟩ => ⟨T, _, x, e1, e2, e3, rfl, e4 _ q⟩
theorem goes_enumT {a : Addr} {vs : List V} {ds : List D} (h : SqTs G.K W H a vs) (r : Rps G.toGx ι W H ds vs) : Goes G (IteT G.K a) (Mini.enumL 0 ds) ι W H := by
  refine ⟨_, _, by rw [enumL_length, r.length]; exact walk_enumT, fun ι2 W2 H2 S fr => ⟨(h.mono S).q, fun i x H' hi y => ?_⟩⟩
  obtain ⟨T, u, v, rfl, hT, rfl, hu, hv⟩ := y
  obtain ⟨d, e, r'⟩ := Rps.getV (Rps.mono S _ _ r) hv
  cases hu
  refine ⟨.inr ⟨T, _, hT, rfl⟩, _, enumL_get ds 0 i d e, ?_⟩
  rw [Nat.zero_add]
  exact pair_new hT (fun z => fr T z hT) fr (.int _) r'
theorem si_enum {e : Expr} {es : List Expr} {g : Ev} {j : Nat} {p pos p3 : Pos} (hX : XOk G X n) (hg : Gl X "enumerate") (hm : X.mg "enumerate" = none) (ns : NoStar e) (h : PE X e (tE G C .strong g)) :
    PI X (.Tuple es j p3) (.Call (.Name "enumerate" p) [e] [] pos) (tI G C fun ρ st => (g ρ st).bind fun x st1 => Mini.lift (Mini.enumD x) st1) := by
  refine piMono (pi_enumT hg hm (pa_cons h pa_nil (star_cons ns _ _)) (star_cons ns _ _)) fun σ H Q ⟨ρ, st, ι, R, q⟩ => tE_postI R q fun x st1 v ι1 H1 e1 R1 S1 w1 q1 => ?_
  cases hi : Mini.enumD x with
  | none => rw [hi] at q1; exact q1.elim
  | some xs =>
    rw [hi] at q1
    obtain ⟨ys, kind, rfl⟩ := enumD_inv hi
    have w1 : Rp G.toGx ι1 (Wr C ι1 ρ σ) H1 x v := w1
    rw [hX.k]
    rcases kind with rfl | rfl
    · cases w1 with
      | lst h1 h2 => exact ⟨_, _, rfl, .inl ⟨h1.q, q1 _ ι1 H1 R1 S1 (goes_enum h1 h2)⟩⟩
    · cases w1 with
      | tup h1 h2 => exact ⟨_, _, rfl, .inr ⟨h1.q, q1 _ ι1 H1 R1 S1 (goes_enumT h1 h2)⟩⟩
theorem zipD_inv {x y : D} {xs : List D} (h : Mini.zipD x y = some xs) : (∃ as bs, x = .lst as ∧ y = .lst bs ∧ xs = (as.zip bs).map fun p => D.tup [p.1, p.2]) ∨ (∃ as bs, x = .tup as ∧ y = .tup bs ∧ xs = (as.zip bs).map fun p => D.tup [p.1, p.2]) := by
  unfold Mini.zipD at h
  split at h
  · exact .inl ⟨_, _, rfl, rfl, (Option.some.inj h).symm⟩
  · exact .inr ⟨_, _, rfl, rfl, (Option.some.inj h).symm⟩
  · cases h
theorem si_zip {a b : Expr} {es : List Expr} {ga gb : Ev} {j : Nat} {p pos p3 : Pos} (hX : XOk G X n) (hg : Gl X "zip") (hm : X.mg "zip" = none) (na : NoStar a) (nb : NoStar b) (ha : PE X a (tE G C .strong ga)) (hb : PE X b (tE G C .strong gb)) :
    PI X (.Tuple es j p3) (.Call (.Name "zip" p) [a, b] [] pos) (tI G C fun ρ st => (ga ρ st).bind fun x st1 => (gb ρ st1).bind fun y st2 => Mini.lift (Mini.zipD x y) st2) := by
  refine piMono (RZ.pi_zipA hg hm (pa_cons ha (pa_cons hb pa_nil (star_cons nb _ _)) (star_cons na _ _)) (star_cons na _ _) (plain_star (fun e he => by rw [List.mem_singleton.mp he]; exact nb) _ _)) fun σ H Q ⟨ρ, st, ι, R, q⟩ => tE_postI R q fun x st1 v ι1 H1 e1 R1 S1 w1 q1 => ?_
  refine tE_postI R1 (PostI.from S1 q1) fun y st2 v2 ι2 H2 e2 R2 S2 w2 q2 => ?_
  cases hi : Mini.zipD x y with
  | none => rw [hi] at q2; exact q2.elim
  | some xs =>
    rw [hi] at q2
    have w1 : Rp G.toGx ι1 (Wr C ι1 ρ σ) H1 x v := w1
    have w1 := Rp.mono S2.stp _ _ w1
    have w2 : Rp G.toGx ι2 (Wr C ι2 ρ σ) H2 y v2 := w2
    rcases zipD_inv hi with ⟨as, bs, rfl, rfl, rfl⟩ | ⟨as, bs, rfl, rfl, rfl⟩
    · cases w1 with
      | lst h1 h2 =>
        cases w2 with
        | lst h3 h4 =>
          rw [hX.k]
          exact ⟨_, _, _, _, rfl, .inl ⟨h1.q, h3.q, q2 _ ι2 H2 R2 S2 (goes_zip h1 h2 h3 h4)⟩⟩
    · cases w1 with
      | tup h1 h2 =>
        cases w2 with
        | tup h3 h4 =>
          rw [hX.k]
          exact ⟨_, _, _, _, rfl, .inr ⟨h1.q, h3.q, q2 _ ι2 H2 R2 S2 (goes_zipT h1 h2 h3 h4)⟩⟩
end
end Snd
end
section
set_option maxRecDepth 100000
set_option maxHeartbeats 4000000
/-! Snd16: list comprehensions. -/
namespace Snd
open PySem PySem.Spec PyProof.Rows L2
open Mini (D Sl Xc Res SRes Ex Ar Itr Stm Tgt)
section
variable {G : Gy} {C : FCx} {X : Cx} {n : Nat} {ι ι' : List Addr} {W W' : Addr → Prop} {H H' : Hp} {ρ ρ' : Mini.Env} {st st' : Mini.Store} {σ σ' : L2.St} {k : Kd}
/-- a place where a list stands is written -/
theorem tabs_lst {T : List (Addr × Str)} {p : Addr} {us vs : List V} (h : H p = some (.lst us)) (t : LamX.Tabs T H) : LamX.Tabs T (upd H p (.lst vs)) := by
  intro q hq
  obtain ⟨ps, h1, h2, h3⟩ := t q hq
  refine ⟨ps, ?_, h2, fun pos cv hc => ?_⟩
  · rw [upd_ne fun z => by rw [z, h] at h1; cases h1]; exact h1
  · obtain ⟨c, e1, e2⟩ := h3 pos cv hc
    refine ⟨c, e1, ?_⟩
    rw [upd_ne fun z => by rw [z, h] at e2; unfold LamX.CodeO at e2; cases e2]; exact e2
/-- the frame within a comprehension: the new list is hidden, no error leaves it -/
def blkX (C : FCx) (ρ : Mini.Env) (σ : L2.St) (p : Addr) : FCx := { C with EE := fun _ _ _ => False, hid := fun a => C.hid a ∨ a = p ∨ OwnAt ρ σ a }
theorem Snc.blk {G : Gx} {p : Addr} (s : Snc G C ι H) : Snc G (blkX C ρ σ p) ι H := ⟨s.pre, s.keep, s.new, s.there, s.z, s.tabs⟩
abbrev gB (G : Gy) (C : FCx) (t : Tgt) : TG := fun v σ H Q => ∃ ρ0 σ0 p, tG G (blkX C ρ0 σ0 p) t v σ H Q
abbrev tB (G : Gy) (C : FCx) (gt : EvT) : TT := fun σ H Q => ∃ ρ0 σ0 p, tT G (blkX C ρ0 σ0 p) gt σ H Q
abbrev eB (G : Gy) (C : FCx) (ge : Ev) : TE := fun σ H Q => ∃ ρ0 σ0 p, tE G (blkX C ρ0 σ0 p) .strong ge σ H Q
theorem Rl.setWipe {G : Gx} : ∀ {vs : List Nat}, Rl G C ρ st ι σ H → Rl G C (Mini.wipeE ρ vs) st ι (wipe σ vs) H
  | [], R => R
  | v :: vs, R => by
    have R1 := Rl.setWipe (vs := vs) R
    show Rl G C ((Mini.wipeE ρ vs).set v .non) st ι ((wipe σ vs).set v none) H
    by_cases h : v < (Mini.wipeE ρ vs).length
    · exact R1.setX (fun _ z => by cases z) h fun _ => trivial
    · rw [List.set_eq_of_length_le (by omega), List.set_eq_of_length_le (by rw [R1.len]; omega)]
      exact R1
theorem own_wipe : ∀ {vs : List Nat} {a : Addr}, OwnAt (Mini.wipeE ρ vs) (wipe σ vs) a → OwnAt ρ σ a
  | [], _, h => h
  | v :: vs, _, h => own_wipe (vs := vs) (own_off (i := v) (x := .non) (v := none) (fun _ z => by cases z) h)
theorem wipe_comm {i : Nat} {v : Option V} : ∀ {ws : List Nat} {σ : L2.St}, i ∉ ws → wipe (σ.set i v) ws = (wipe σ ws).set i v
  | [], _, _ => rfl
  | w :: ws, σ, hn => by
    unfold wipe
    rw [wipe_comm fun z => hn (List.mem_cons_of_mem _ z)]
    exact List.set_comm _ _ fun z => hn (by rw [← z]; exact List.mem_cons_self)
theorem wipe_all : ∀ {vs ws : List Nat} {σ : L2.St}, (∀ i ∈ vs, i ∈ ws) → wipe (wipe σ vs) ws = wipe σ ws
  | [], _, _, _ => rfl
  | v :: vs, ws, σ, h => by
    show wipe ((wipe σ vs).set v none) ws = _
    rw [wipe_set (h v List.mem_cons_self), wipe_all fun i hi => h i (List.mem_cons_of_mem _ hi)]
theorem Rl.enter (R : Rl G.toGx C ρ st ι σ H) {p : Addr} (hp : H p = none) : Rl G.toGx (blkX C ρ σ p) ρ st ι σ (upd H p (.lst [])) := by
  obtain ⟨R1, S1⟩ := R.new (o := .lst []) hp
  have hS : Stp ι (Wr C ι ρ σ) H ι (Wr (blkX C ρ σ p) ι ρ σ) (upd H p (.lst [])) := ⟨⟨[], by simp⟩, fun a o h n nt => S1.keep a o h (fun z => n (.inl z)) nt, fun a z => by
    rcases z with z | z | z | z | z | z
    · exact .inl (.inl z)
    · exact .inl (.inr (.inl z))
    · exact .inl (.inr (.inr (.inl z)))
    · exact .inl (.inr (.inr (.inr z)))
    · rw [z]; exact .inr hp
    · exact .inl (.inr (.inr (.inl z))), S1.there⟩
  have keep : ∀ a o, H a = some o → upd H p (.lst []) a = some o := fun a o e => by rw [upd_ne (ne_of_none e hp)]; exact e
  refine ⟨R1.snc.blk, R.len, ⟨R.sto.len, R.sto.nd, R.sto.fl, fun m ds e => ?_⟩, fun i x e => (R.slot i x e).mono hS fun _ a _ _ o h => keep a o h, R.ownO, R.ownI, fun a ha => ?_⟩
  · obtain ⟨a, vs, e1, e2, e3⟩ := R.sto.at_ m ds e
    exact ⟨a, vs, e1, keep _ _ e2, Rps.mono hS ds vs e3⟩
  · rcases ha with ha | ha | ha
    · exact R1.hidO a ha
    · subst ha
      refine ⟨⟨_, upd_same, .inl ⟨_, rfl⟩⟩, fun m => ?_, ?_⟩
      · obtain ⟨vs, e⟩ := R.sto.there m
        rw [hp] at e; cases e
      · show C.H0 a = none
        cases q : C.H0 a with
        | none => rfl
        | some o => exact absurd hp (R.snc.there a (by rw [q]; simp))
    · obtain ⟨o, e, nt⟩ := R1.own_there ha
      obtain ⟨i, d, e1, e2⟩ := ha
      obtain ⟨z1, z2, z3⟩ := R.ownO i d a e1 e2
      exact ⟨⟨o, e, nt⟩, z1, z3⟩
/-- the hidden list is written -/
theorem Rl.hidSet (R : Rl G.toGx C ρ st ι σ H) {p : Addr} {us vs : List V} (hp : C.hid p) (e : H p = some (.lst us)) (no : ¬ OwnAt ρ σ p) : Rl G.toGx C ρ st ι σ (upd H p (.lst vs)) ∧ Stp ι (Wr C ι ρ σ) H ι (Wr C ι ρ σ) (upd H p (.lst vs)) := by
  have hw : Wr C ι ρ σ p := .inr (.inr (.inr hp))
  obtain ⟨_, ni, n0⟩ := R.hidO p hp
  have th : ∀ a, H a ≠ none → upd H p (.lst vs) a ≠ none := fun a z => by
    by_cases q : a = p
    · rw [q, upd_same]; simp
    · rw [upd_ne q]; exact z
  have S : Stp ι (Wr C ι ρ σ) H ι (Wr C ι ρ σ) (upd H p (.lst vs)) := ⟨⟨[], by simp⟩, fun a o h nw _ => by rw [upd_ne fun z => nw (by rw [z]; exact hw)]; exact h, fun a z => .inl z, th⟩
  refine ⟨⟨⟨R.snc.pre, fun a o h n nt => ?_, R.snc.new, fun a z => th a (R.snc.there a z), R.snc.z, tabs_lst e R.snc.tabs⟩, R.len, ⟨R.sto.len, R.sto.nd, R.sto.fl, fun m ds q => ?_⟩, fun i x q => (R.slot i x q).mono S fun d a h1 h2 o h => ?_, R.ownO, R.ownI, fun a ha => ?_⟩, S⟩
  · rw [upd_ne fun z => by rw [z, n0] at h; cases h]
    exact R.snc.keep a o h n nt
  · obtain ⟨a, ws, e1, e2, e3⟩ := R.sto.at_ m ds q
    refine ⟨a, ws, e1, ?_, Rps.mono S ds ws e3⟩
    rw [upd_ne fun z => ni (by rw [← z]; exact List.mem_of_getElem? e1)]
    exact e2
  · subst h1
    rw [upd_ne fun z => no ⟨i, d, q, by rw [h2, z]⟩]
    exact h
  · obtain ⟨⟨o, h1, nt⟩, h2⟩ := R.hidO a ha
    by_cases q : a = p
    · rw [q, upd_same]
      exact ⟨⟨_, rfl, .inl ⟨_, rfl⟩⟩, by rw [← q]; exact h2⟩
    · rw [upd_ne q]
      exact ⟨⟨o, h1, nt⟩, h2⟩
theorem st_yes : PTs X [] (tT G C fun _ st => .ok true st) := ⟨fun pins s σ H Q I ⟨ρ, st, ι, R, q⟩ => pts_nil.run pins s σ H Q I (q ι H R StpE.refl)⟩
abbrev lcG (t : Tgt) (gi : EvL) (gt : EvT) (ge : Ev) : Ev := fun ρ st => (gi ρ st).bind fun xs st1 =>
  (Mini.lcL (fun x => Mini.bindT t x (Mini.wipeE ρ (Mini.slotsT t))) (fun ρ' st' => (gt ρ' st').calm) (fun ρ' st' => (ge ρ' st').calm) [] xs st1).bind fun ys st2 => .ok (.lst ys) st2
theorem StpE.at_none {p : Addr} (s : StpE ι H ι' H') (hp : p ∉ ι) {o : HO} (e : H p = some o) (nt : ∀ ps, o ≠ .tbl ps) : p ∉ ι' ∧ H' p = some o :=
  ⟨fun z => (s.inew p z).elim hp (by rw [e]; simp), s.keep p o e hp nt⟩
theorem calm_ok {α : Type} {r : Res α} {a : α} {s : Mini.Store} (h : r.calm = .ok a s) : r = .ok a s := by
  cases r <;> first | exact h | cases h
theorem lc_conv {own : List (Str × Nat)} {t : Tgt} {gi : EvL} {gt : EvT} {ge : Ev} {Q : VK} (hown : own.map (·.2) = Mini.slotsT t) (z : tE G C .fresh (lcG t gi gt ge) σ H Q) : tLc (tI G C gi) (gB G C t) (tB G C gt) (eB G C ge) (own.map (·.2)) σ H Q := by
  obtain ⟨ρ, st, ι, R, q⟩ := z
  refine ⟨ρ, st, ι, R, ?_⟩
  have q : PostE G C .fresh ρ ι σ H (lcG t gi gt ge ρ st) Q := q
  unfold lcG at q
  cases e : gi ρ st with
  | raise x st1 => rw [e] at q; exact q
  | stuck => rw [e] at q; exact q
  | ok xs st1 =>
    rw [e] at q
    intro J ι1 H1 R1 S1 go D hD
    obtain ⟨Gd, Y, w, hgo⟩ := go
    have hvs : own.map (·.2) = Mini.slotsT t := hown
    rw [hvs]
    -- the frame within
    have W0 : ∀ {ι2 : List Addr} {H2 : Hp}, StpE ι1 H1 ι2 H2 → Stp ι1 (Wr C ι1 ρ σ) H1 ι2 (Wr (blkX C ρ σ D) ι2 (Mini.wipeE ρ (Mini.slotsT t)) (wipe σ (Mini.slotsT t))) H2 := fun {ι2 H2} S => ⟨S.pre, fun a o h nw nt => S.keep a o h (fun z => nw (.inl z)) nt, fun a z => by
      rcases z with z | z | z | z | z | z
      · exact (S.inew a z).elim (fun z => .inl (.inl z)) .inr
      · exact .inl (.inr (.inl z))
      · exact .inl (.inr (.inr (.inl (own_wipe z))))
      · exact .inl (.inr (.inr (.inr z)))
      · rw [z]; exact .inr hD
      · exact .inl (.inr (.inr (.inl z))), S.there⟩
    have noD : ¬ OwnAt (Mini.wipeE ρ (Mini.slotsT t)) (wipe σ (Mini.slotsT t)) D := fun z => by
      obtain ⟨o, e, _⟩ := R1.own_there (own_wipe z)
      rw [hD] at e; cases e
    refine lc_it w (vs := Mini.slotsT t) (g := gB G C t) (tt := tB G C gt) (te := eB G C ge) (σ := σ) (H1 := H1) (D := D) (Qd := fun H2 => Q (.ref D) H2) (fun i H2 => ∃ ι2 st2 acc accV, Rl G.toGx (blkX C ρ σ D) (Mini.wipeE ρ (Mini.slotsT t)) st2 ι2 (wipe σ (Mini.slotsT t)) H2 ∧ StpE ι1 H1 ι2 H2 ∧ H2 D = some (.lst accV) ∧ D ∉ ι2 ∧
      Rps G.toGx ι2 (Wr (blkX C ρ σ D) ι2 (Mini.wipeE ρ (Mini.slotsT t)) (wipe σ (Mini.slotsT t))) H2 acc accV ∧
      PostE G C .fresh ρ ι σ H ((Mini.lcL (fun x => Mini.bindT t x (Mini.wipeE ρ (Mini.slotsT t))) (fun ρ' st' => (gt ρ' st').calm) (fun ρ' st' => (ge ρ' st').calm) acc (xs.drop i) st2).bind fun ys st2 => .ok (.lst ys) st2) Q) ?_ ?_ ?_ ?_
    · refine ⟨ι1, st1, [], [], (R1.enter hD).setWipe, (R1.new hD).2, upd_same, fun m => ?_, .nil, q⟩
      obtain ⟨vs, e⟩ := R1.sto.there m
      rw [hD] at e; cases e
    · rintro i H2 _ ⟨ι2, st2, acc, accV, R2, S2, h1, h2, h3, q2⟩
      exact (hgo ι2 _ H2 (W0 S2) fun p z => R2.w_there z).1
    · rintro i x H2 H3 hi ⟨ι2, st2, acc, accV, R2, S2, h1, h2, h3, q2⟩ y
      obtain ⟨hgrow, d, hd, rd⟩ := (hgo ι2 _ H2 (W0 S2) fun p z => R2.w_there z).2 i x H3 hi y
      have hx : xs.drop i = d :: xs.drop (i + 1) := by
        obtain ⟨hl, ev⟩ := List.getElem?_eq_some_iff.mp hd
        rw [List.drop_eq_getElem_cons hl, ev]
      rw [hx] at q2
      obtain ⟨R3, S3⟩ : Rl G.toGx (blkX C ρ σ D) (Mini.wipeE ρ (Mini.slotsT t)) st2 ι2 (wipe σ (Mini.slotsT t)) H3 ∧ StpE ι2 H2 ι2 H3 := by
        rcases hgrow with rfl | ⟨p, o, hp, rfl⟩
        · exact ⟨R2, StpE.refl⟩
        · exact R2.new hp
      have dD := S3.at_none h2 h1 (fun _ z => by cases z)
      unfold Mini.lcL at q2
      cases eb : Mini.bindT t d (Mini.wipeE ρ (Mini.slotsT t)) with
      | none => rw [eb] at q2; exact q2.elim
      | some ρ1 =>
        rw [eb] at q2
        dsimp only at q2
        refine ⟨ρ, σ, D, _, st2, ι2, d, ρ1, R3, rd, eb, fun σ1 R4 w4 o4 => ⟨by rw [o4 _ fun _ z => z, wipe_all fun _ z => z], ρ, σ, D, ρ1, st2, ι2, R4, ?_⟩⟩
        cases et : gt ρ1 st2 with
        | raise z st3 => rw [et] at q2; exact q2.elim
        | stuck => rw [et] at q2; exact q2.elim
        | ok b st3 =>
          rw [et] at q2
          intro ι3 H4 R5 S4
          -- back from the block's names
          have back : ∀ {ι5 : List Addr} {st5 : Mini.Store} {H5 : Hp}, StpE ι2 H3 ι5 H5 → Rl G.toGx (blkX C ρ σ D) ρ1 st5 ι5 σ1 H5 → Rl G.toGx (blkX C ρ σ D) (Mini.wipeE ρ (Mini.slotsT t)) st5 ι5 (wipe σ (Mini.slotsT t)) H5 := fun {ι5 st5 H5} S R6 =>
            R3.after S (R6.sto.monoW (Snd.anti fun a z => by
              rcases z with z | z | z | z
              · exact .inl z
              · exact .inr (.inl z)
              · exact .inr (.inr (.inr (.inr (.inr (own_wipe z)))))
              · exact .inr (.inr (.inr z)))) R6.snc.tabs
          have accS : ∀ {ι5 : List Addr} {H5 : Hp}, StpE ι2 H3 ι5 H5 → Rps G.toGx ι5 (Wr (blkX C ρ σ D) ι5 (Mini.wipeE ρ (Mini.slotsT t)) (wipe σ (Mini.slotsT t))) H5 acc accV := fun {ι5 H5} S => Rps.mono (S3.trans S).stp _ _ h3
          cases b with
          | false =>
            have dE := S4.at_none dD.1 dD.2 (fun _ z => by cases z)
            exact ⟨ι3, st3, acc, accV, back S4 R5, S2.trans (S3.trans S4), dE.2, dE.1, accS S4, q2⟩
          | true =>
            refine ⟨ρ, σ, D, ρ1, st3, ι3, R5, ?_⟩
            have q2 : PostE G C .fresh ρ ι σ H (((ge ρ1 st3).calm.bind fun y st2 => if decide (acc.length < Mini.line) then Mini.lcL (fun x => Mini.bindT t x (Mini.wipeE ρ (Mini.slotsT t))) (fun ρ' st' => (gt ρ' st').calm) (fun ρ' st' => (ge ρ' st').calm) (acc ++ [y]) (xs.drop (i + 1)) st2 else .stuck).bind fun ys st2 => .ok (.lst ys) st2) Q := q2
            cases ee : ge ρ1 st3 with
            | raise z st4 => rw [ee] at q2; exact q2.elim
            | stuck => rw [ee] at q2; exact q2.elim
            | ok y st4 =>
              rw [ee] at q2
              intro v ι4 H5 R6 S5 rv
              have q2 : PostE G C .fresh ρ ι σ H ((if decide (acc.length < Mini.line) then Mini.lcL (fun x => Mini.bindT t x (Mini.wipeE ρ (Mini.slotsT t))) (fun ρ' st' => (gt ρ' st').calm) (fun ρ' st' => (ge ρ' st').calm) (acc ++ [y]) (xs.drop (i + 1)) st4 else .stuck).bind fun ys st2 => .ok (.lst ys) st2) Q := q2
              split at q2
              · rename_i hz
                have hz : acc.length < Mini.line := of_decide_eq_true hz
                have S6 := S4.trans S5
                have dE := S6.at_none dD.1 dD.2 (fun _ z => by cases z)
                have R7 := back S6 R6
                have aS := accS S6
                have rv : Rp G.toGx ι4 (Wr (blkX C ρ σ D) ι4 ρ1 σ1) H5 y v := rv
                have rv2 : Rp G.toGx ι4 (Wr (blkX C ρ σ D) ι4 (Mini.wipeE ρ (Mini.slotsT t)) (wipe σ (Mini.slotsT t))) H5 y v := Rp.mono (Snd.anti fun a z => by
                  rcases z with z | z | z | z
                  · exact .inl z
                  · exact .inr (.inl z)
                  · exact .inr (.inr (.inr (.inr (.inr (own_wipe z)))))
                  · exact .inr (.inr (.inr z))) _ _ rv
                obtain ⟨R8, S8⟩ := R7.hidSet (vs := accV ++ [v]) (.inr (.inl rfl)) dE.2 noD
                refine ⟨accV, dE.2, by rw [← aS.length, ← line_eq]; exact hz, ι4, st4, acc ++ [y], accV ++ [v], R8, ?_, upd_same, dE.1, Rps.mono S8 _ _ (aS.app (.cons rv2 .nil)), q2⟩
                have S9 := S2.trans (S3.trans S6)
                exact ⟨S9.pre, fun a o h nm nt => by rw [upd_ne (ne_of_none h hD)]; exact S9.keep a o h nm nt, S9.inew, fun a z => by
                  by_cases q : a = D
                  · rw [q, upd_same]; simp
                  · rw [upd_ne q]; exact S9.there a z⟩
              · exact q2.elim
    · rintro H2 ⟨ι2, st2, acc, accV, R2, S2, h1, h2, h3, q2⟩
      rw [List.drop_length] at q2
      have q2 : PostE G C .fresh ρ ι σ H (.ok (.lst acc) st2) Q := q2
      have an : ∀ a, Wr C ι2 ρ σ a → Wr (blkX C ρ σ D) ι2 (Mini.wipeE ρ (Mini.slotsT t)) (wipe σ (Mini.slotsT t)) a := fun a z => by
        rcases z with z | z | z | z
        · exact .inl z
        · exact .inr (.inl z)
        · exact .inr (.inr (.inr (.inr (.inr z))))
        · exact .inr (.inr (.inr (.inl z)))
      have R3 := R1.after S2 (R2.sto.monoW (Snd.anti an)) R2.snc.tabs
      have nw : ¬ Wr C ι2 ρ σ D := fun z => by
        rcases z with z | z
        · exact h2 z
        · exact R1.fresh hD (.inr z)
      have r3 := Rps.mono (Snd.anti an) _ _ h3
      refine q2 (.ref D) ι2 H2 R3 (S1.trans S2) ⟨.lst (.inl ⟨.inl h1, nw⟩) r3, fun _ => ⟨D, rfl, ?_, nw, accV, h1, Rps.mono (Snd.anti fun a z => by
        rcases z with z | rfl
        · exact an a z
        · exact .inr (.inr (.inr (.inr (.inl rfl))))) _ _ h3⟩⟩
      cases z : H D with
      | none => rfl
      | some o => exact absurd hD (S1.there D (by rw [z]; simp))
theorem se_lc {elt tg iter : Expr} {ifs : List Expr} {scope : Scope} {own : List (Str × Nat)} {pos : Pos} {t : Tgt} {gi : EvL} {gt : EvT} {ge : Ev} (hX : XOk G X n) (hN : X.N.Nodup) (hi : PI X tg iter (tI G C gi)) (ok : BlkOk X.N X.env.scope scope own)
    (hown : own.map (·.2) = Mini.slotsT t)
    (hg : ∀ (ρ : Mini.Env) (σ : L2.St) (p : Addr) (s : Shared) (H : Hp) (a : Addr) (cl : List (Str × Addr)) (fp : List Addr), PG (X.blk s H scope (compEnvC scope cl a X.env) fp) tg (tG G (blkX C ρ σ p) t))
    (ht : ∀ (ρ : Mini.Env) (σ : L2.St) (p : Addr) (s : Shared) (H : Hp) (a : Addr) (cl : List (Str × Addr)) (fp : List Addr), PTs (X.blk s H scope (compEnvC scope cl a X.env) fp) ifs (tT G (blkX C ρ σ p) gt))
    (he : ∀ (ρ : Mini.Env) (σ : L2.St) (p : Addr) (s : Shared) (H : Hp) (a : Addr) (cl : List (Str × Addr)) (fp : List Addr), PE (X.blk s H scope (compEnvC scope cl a X.env) fp) elt (tE G (blkX C ρ σ p) .strong ge))
    (hs : ∀ x, foldedSetIterable iter X.env x = pure x) : PE X (.ListComp elt [⟨tg, iter, ifs, 0⟩] scope pos) (tE G C .fresh (lcG t gi gt ge)) :=
  peMono (pe_lc (g := gB G C t) (tt := tB G C gt) (te := eB G C ge) hX.calm hN hi ok
    (fun s H a cl fp => ⟨fun pins s' σ H' v u Q I r ⟨ρ0, σ0, p, q⟩ => (hg ρ0 σ0 p s H a cl fp).run pins s' σ H' v u Q I r q⟩)
    (fun s H a cl fp => ⟨fun pins s' σ H' Q I ⟨ρ0, σ0, p, q⟩ => (ht ρ0 σ0 p s H a cl fp).run pins s' σ H' Q I q⟩)
    (fun s H a cl fp => ⟨fun pins s' σ H' Q I ⟨ρ0, σ0, p, q⟩ => (he ρ0 σ0 p s H a cl fp).run pins s' σ H' Q I q⟩) hs) fun σ H Q z => lc_conv hown z
end
end Snd
end
section
set_option maxRecDepth 100000
set_option maxHeartbeats 4000000
/-! Snd17: statements. -/
namespace Snd
open PySem PySem.Spec PyProof.Rows L2
open Mini (D Sl Xc Res SRes Ex Ar Itr Stm Tgt)
section
variable (G : Gy)
/-- what a statement does -/
def PostSt (C : FCx) (ρ : Mini.Env) (ι : List Addr) (σ : L2.St) (H : Hp) (r : SRes) (F : Ends) : Prop := match r with
  | .nx ρ' st' => ∀ ι' σ' H', Rl G.toGx C ρ' st' ι' σ' H' → Stp ι (Wr C ι ρ σ) H ι' (Wr C ι' ρ' σ') H' → F.nx σ' H'
  | .brk ρ' st' => ∀ ι' σ' H', Rl G.toGx C ρ' st' ι' σ' H' → Stp ι (Wr C ι ρ σ) H ι' (Wr C ι' ρ' σ') H' → F.bk σ' H'
  | .cnt ρ' st' => ∀ ι' σ' H', Rl G.toGx C ρ' st' ι' σ' H' → Stp ι (Wr C ι ρ σ) H ι' (Wr C ι' ρ' σ') H' → F.ct σ' H'
  | .ret d st' => ∀ v ρ' ι' σ' H', Rl G.toGx C ρ' st' ι' σ' H' → Rp G.toGx ι' (Wr C ι' ρ' σ') H' d v → F.rt v H'
  | .raise x st' => ∀ cls dx ρ' ι' σ' H', Rl G.toGx C ρ' st' ι' σ' H' → ExcR G.ex H' x cls dx → C.EE cls dx H'
  | .stuck => False
def tSt (C : FCx) (g : Mini.Env → Mini.Store → SRes) : TS := fun F σ H => ∃ ρ st ι, Rl G.toGx C ρ st ι σ H ∧ PostSt G C ρ ι σ H (g ρ st) F
end
section
variable {G : Gy} {C : FCx} {X : Cx} {n : Nat} {ι ι' : List Addr} {W W' : Addr → Prop} {H H' : Hp} {ρ ρ' : Mini.Env} {st st' : Mini.Store} {σ σ' : L2.St} {k : Kd} {F : Ends}
abbrev EvSt := Mini.Env → Mini.Store → SRes
theorem psMono {s : Stmt} {t t' : TS} (h : PS X s t) (k : ∀ F σ H, t' F σ H → t F σ H) : PS X s t' := ⟨fun pins s σ H F I q => h.run pins s σ H F I (k F σ H q)⟩
theorem pssMono {s : List Stmt} {t t' : TS} (h : PSs X s t) (k : ∀ F σ H, t' F σ H → t F σ H) : PSs X s t' := ⟨fun pins s σ H F I q => h.run pins s σ H F I (k F σ H q)⟩
theorem PostSt.from {r : SRes} (S : Stp ι (Wr C ι ρ σ) H ι' (Wr C ι' ρ' σ') H') (q : PostSt G C ρ ι σ H r F) : PostSt G C ρ' ι' σ' H' r F := by
  cases r with
  | nx ρ2 st2 => exact fun ι2 σ2 H2 R2 S2 => q ι2 σ2 H2 R2 (S.trans S2)
  | brk ρ2 st2 => exact fun ι2 σ2 H2 R2 S2 => q ι2 σ2 H2 R2 (S.trans S2)
  | cnt ρ2 st2 => exact fun ι2 σ2 H2 R2 S2 => q ι2 σ2 H2 R2 (S.trans S2)
  | ret d st2 => exact q
  | raise x st2 => exact q
  | stuck => exact q
/-- other ends for what goes on -/
theorem PostSt.ends {r : SRes} {F' : Ends} (q : PostSt G C ρ ι σ H r F) (e1 : ∀ σ H, F.nx σ H → F'.nx σ H) (e2 : ∀ σ H, F.bk σ H → F'.bk σ H) (e3 : ∀ σ H, F.ct σ H → F'.ct σ H) (e4 : ∀ v H, F.rt v H → F'.rt v H) : PostSt G C ρ ι σ H r F' := by
  cases r with
  | nx ρ2 st2 => exact fun ι2 σ2 H2 R2 S2 => e1 _ _ (q ι2 σ2 H2 R2 S2)
  | brk ρ2 st2 => exact fun ι2 σ2 H2 R2 S2 => e2 _ _ (q ι2 σ2 H2 R2 S2)
  | cnt ρ2 st2 => exact fun ι2 σ2 H2 R2 S2 => e3 _ _ (q ι2 σ2 H2 R2 S2)
  | ret d st2 => exact fun v ρ2 ι2 σ2 H2 R2 r2 => e4 _ _ (q v ρ2 ι2 σ2 H2 R2 r2)
  | raise x st2 => exact q
  | stuck => exact q
/-- an expression first -/
theorem tE_st {k' : Kd} {ga : Ev} {Q' : VK} {gb : D → Mini.Store → SRes} (R : Rl G.toGx C ρ st ι σ H) (q : PostSt G C ρ ι σ H ((ga ρ st).toS gb) F)
    (h : ∀ x st1 v ι1 H1, ga ρ st = .ok x st1 → Rl G.toGx C ρ st1 ι1 σ H1 → StpE ι H ι1 H1 → ResR G.toGx k' H ι1 (Wr C ι1 ρ σ) H1 x v → PostSt G C ρ ι σ H (gb x st1) F → Q' v H1) : tE G C k' ga σ H Q' := by
  refine ⟨ρ, st, ι, R, ?_⟩
  cases e : ga ρ st with
  | ok ds st1 => rw [e] at q; exact fun vs ι1 H1 a b c => h ds st1 vs ι1 H1 e a b c q
  | raise x st1 => rw [e] at q; exact fun cls dx ι' H' R' => q cls dx ρ ι' σ H' R'
  | stuck => rw [e] at q; exact q
theorem ss_pass {pos : Pos} : PS X (.Pass pos) (tSt G C fun ρ st => .nx ρ st) := psMono ps_pass fun F σ H ⟨ρ, st, ι, R, q⟩ => q ι σ H R Stp.refl
theorem ss_brk {pos : Pos} : PS X (.Break pos) (tSt G C fun ρ st => .brk ρ st) := psMono ps_break fun F σ H ⟨ρ, st, ι, R, q⟩ => q ι σ H R Stp.refl
theorem ss_cnt {pos : Pos} : PS X (.Continue pos) (tSt G C fun ρ st => .cnt ρ st) := psMono ps_continue fun F σ H ⟨ρ, st, ι, R, q⟩ => q ι σ H R Stp.refl
theorem ret_conv {g : Ev} {F : Ends} (z : tSt G C (fun ρ st => (g ρ st).toS fun d st1 => .ret d st1) F σ H) : tRet (tE G C .strong g) F σ H := by
  obtain ⟨ρ, st, ι, R, q⟩ := z
  exact tE_st R q fun x st1 v ι1 H1 e1 R1 S1 w1 q1 => q1 v ρ ι1 σ H1 R1 w1
theorem ss_ret {e : Expr} {g : Ev} {pos : Pos} (h : PE X e (tE G C .strong g)) : PS X (.Return (some e) pos) (tSt G C fun ρ st => (g ρ st).toS fun d st1 => .ret d st1) :=
  psMono (ps_ret h) fun _ _ _ z => ret_conv z
theorem ss_retN {pos : Pos} : PS X (.Return none pos) (tSt G C fun ρ st => .ret .non st) := psMono ps_retN fun F σ H ⟨ρ, st, ι, R, q⟩ => q .non ρ ι σ H R .non
theorem ss_expr {k1 : Kd} {e : Expr} {g : Ev} {pos : Pos} (h : PE X e (tE G C k1 g)) (hs : swapsWith e none pos.line X.env = pure false) : PS X (.Expr e pos) (tSt G C fun ρ st => (g ρ st).toS fun _ st1 => .nx ρ st1) :=
  psMono (ps_expr h hs) fun F σ H ⟨ρ, st, ι, R, q⟩ => tE_st R q fun x st1 v ι1 H1 e1 R1 S1 w1 q1 => q1 ι1 σ H1 R1 S1.stp
theorem sb_nil : PSs X [] (tSt G C fun ρ st => .nx ρ st) := pssMono pss_nil fun F σ H ⟨ρ, st, ι, R, q⟩ => q ι σ H R Stp.refl
abbrev seqG (g h : EvSt) : EvSt := fun ρ st => match g ρ st with
  | .nx ρ1 st1 => h ρ1 st1
  | r => r
theorem seq_conv {g h : EvSt} {F : Ends} (z : tSt G C (seqG g h) F σ H) : tSeq (tSt G C g) (tSt G C h) F σ H := by
  obtain ⟨ρ, st, ι, R, q⟩ := z
  refine ⟨ρ, st, ι, R, ?_⟩
  have q : PostSt G C ρ ι σ H (seqG g h ρ st) F := q
  unfold seqG at q
  cases e : g ρ st with
  | nx ρ1 st1 => rw [e] at q; exact fun ι1 σ1 H1 R1 S1 => ⟨ρ1, st1, ι1, R1, PostSt.from S1 q⟩
  | brk ρ1 st1 => rw [e] at q; exact q
  | cnt ρ1 st1 => rw [e] at q; exact q
  | ret d st1 => rw [e] at q; exact q
  | raise x st1 => rw [e] at q; exact q
  | stuck => rw [e] at q; exact q
theorem sb_cons {s : Stmt} {rest : List Stmt} {g h : EvSt} (h1 : PS X s (tSt G C g)) (h2 : PSs X rest (tSt G C h)) : PSs X (s :: rest) (tSt G C (seqG g h)) := pssMono (pss_cons h1 h2) fun _ _ _ z => seq_conv z
abbrev iteS (c : Ev) (g h : EvSt) : EvSt := fun ρ st => (c ρ st).toS fun x st1 => match Mini.truth x with
  | some true => g ρ st1
  | some false => h ρ st1
  | none => .stuck
theorem if_conv {gc : Ev} {ga gb : EvSt} {F : Ends} (z : tSt G C (iteS gc ga gb) F σ H) : tIfS (tT G C (tr gc)) (tSt G C ga) (tSt G C gb) F σ H := by
  obtain ⟨ρ, st, ι, R, q⟩ := z
  refine ⟨ρ, st, ι, R, ?_⟩
  have q : PostSt G C ρ ι σ H (iteS gc ga gb ρ st) F := q
  unfold iteS at q
  show PostT G C ρ ι σ H ((gc ρ st).bind fun x st1 => Mini.lift (Mini.truth x) st1) _
  cases e : gc ρ st with
  | stuck => rw [e] at q; exact q
  | raise x st1 => rw [e] at q; exact fun cls dx ι' H' R' => q cls dx ρ ι' σ H' R'
  | ok x st1 =>
    rw [e] at q
    show PostT G C ρ ι σ H (Mini.lift (Mini.truth x) st1) _
    have q : PostSt G C ρ ι σ H (match Mini.truth x with | some true => ga ρ st1 | some false => gb ρ st1 | none => .stuck) F := q
    cases hb : Mini.truth x with
    | none => rw [hb] at q; exact q
    | some b =>
      rw [hb] at q
      intro ι1 H1 R1 S1
      cases b with
      | true => exact ⟨ρ, st1, ι1, R1, PostSt.from S1.stp q⟩
      | false => exact ⟨ρ, st1, ι1, R1, PostSt.from S1.stp q⟩

theorem ss_if {c : Expr} {a b : List Stmt} {gc : Ev} {ga gb : EvSt} {pos : Pos} (hc : PT X c (tT G C (tr gc))) (ha : PSs X a (tSt G C ga)) (hb : PSs X b (tSt G C gb)) : PS X (.If c a b pos) (tSt G C (iteS gc ga gb)) := psMono (ps_if hc ha hb) fun _ _ _ z => if_conv z
/-! ### names -/
theorem setVal_stp {i : Nat} {d : D} {v : V} : Stp ι (Wr C ι ρ σ) H ι (Wr C ι (ρ.set i (.val d)) (σ.set i (some v))) H := Snd.anti fun a => wr_off fun _ z => by cases z
abbrev setG (i : Nat) (o : Bool) (g : Ev) : EvSt := fun ρ st => (g ρ st).toS fun d st1 => Mini.nxO (Mini.setO ρ i o d) st1
theorem setO_val {i : Nat} {d : D} {ρ1 : Mini.Env} (h : Mini.setO ρ i false d = some ρ1) : i < ρ.length ∧ ρ1 = ρ.set i (.val d) := by
  unfold Mini.setO at h
  split at h
  · rename_i lt
    exact ⟨lt, (Option.some.inj h).symm⟩
  · cases h
theorem setO_own {i : Nat} {d : D} {ρ1 : Mini.Env} (h : Mini.setO ρ i true d = some ρ1) : i < ρ.length ∧ isOwn d ∧ ρ1 = ρ.set i (.own d) := by
  unfold Mini.setO at h
  split at h
  · refine ⟨by assumption, ?_⟩
    cases d <;> first | (exact absurd (show (none : Option Mini.Env) = some ρ1 from h) (by simp)) | exact ⟨trivial, (Option.some.inj h).symm⟩
  · cases h
theorem ss_set {i : Nat} {x : Str} {e : Expr} {g : Ev} {pos pos' : Pos} (hN : X.N.Nodup) (hi : X.N[i]? = some x) (hx : Loc X.env.scope x) (h : PE X e (tE G C .strong g)) (hs : swapsWith e (some (.Name x pos')) pos.line X.env = pure false)
    (hf : X.fn x = true ∨ X.env.scope.names.lookup x = some .local) : PS X (.Assign [.Name x pos'] e pos) (tSt G C (setG i false g)) := by
  refine psMono (ps_set hN hi hx h hs hf) fun F σ H ⟨ρ, st, ι, R, q⟩ => tE_st R q fun y st1 v ι1 H1 e1 R1 S1 w1 q1 => ?_
  cases ho : Mini.setO ρ i false y with
  | none => rw [ho] at q1; exact q1.elim
  | some ρ1 =>
    rw [ho] at q1
    obtain ⟨hl, rfl⟩ := setO_val ho
    exact q1 ι1 _ H1 (R1.setVal hl w1) (S1.stp.trans setVal_stp)
/-- a list just made is hidden -/
def hideC (C : FCx) (p : Addr) : FCx := { C with hid := fun a => C.hid a ∨ a = p }
theorem Rl.hide (R : Rl G.toGx C ρ st ι σ H) (S : StpE ι H ι' H') (R' : Rl G.toGx C ρ st' ι' σ H') {p : Addr} (hp : H p = none) (nw : ¬ Wr C ι' ρ σ p) {o : HO} (ho : H' p = some o) (nt : Deck G.toGx p o) : Rl G.toGx (hideC C p) ρ st' ι' σ H' := by
  have hS : Stp ι (Wr C ι ρ σ) H ι' (Wr (hideC C p) ι' ρ σ) H' := ⟨S.pre, fun a u e n nt => S.keep a u e (fun z => n (.inl z)) nt, fun a z => by
    rcases z with z | z | z | z | z
    · exact (S.inew a z).elim (fun z => .inl (.inl z)) .inr
    · exact .inl (.inr (.inl z))
    · exact .inl (.inr (.inr (.inl z)))
    · exact .inl (.inr (.inr (.inr z)))
    · rw [z]; exact .inr hp, S.there⟩
  refine ⟨⟨R'.snc.pre, R'.snc.keep, R'.snc.new, R'.snc.there, R'.snc.z, R'.snc.tabs⟩, R'.len, ⟨R'.sto.len, R'.sto.nd, R'.sto.fl, fun m ds e => ?_⟩, fun i x e => (R.slot i x e).mono hS fun d a h1 h2 u h => ?_, R'.ownO, R'.ownI, fun a ha => ?_⟩
  · obtain ⟨a, vs, e1, e2, e3⟩ := R'.sto.at_ m ds e
    refine ⟨a, vs, e1, e2, ?_⟩
    obtain ⟨ns, en⟩ := Option.isSome_iff_exists.mp (R'.sto.fl m ds e)
    have ev := e3.intsV en
    have ed : ds = ns.map D.int := by
      clear e e1 e2 e3 ev
      induction ds generalizing ns with
      | nil => cases en; rfl
      | cons d ds ih =>
        cases d <;> first | (exact absurd (show (none : Option (List Int)) = some ns from en) (by simp)) | skip
        rename_i b
        obtain ⟨bs', e1, e2⟩ := Option.map_eq_some_iff.mp (show (Mini.intL ds).map (b :: ·) = some ns from en)
        subst e2
        rw [ih bs' e1]
        rfl
    rw [ev, ed]
    exact Rps.ofInts _
  · subst h1
    obtain ⟨z1, _, _⟩ := R.ownO i d a e h2
    obtain ⟨u', e', nt'⟩ := R.own_there ⟨i, d, e, h2⟩
    rw [h] at e'
    cases e'
    exact S.keep a u h z1 nt'.nt
  · rcases ha with ha | rfl
    · exact R'.hidO a ha
    · refine ⟨⟨o, ho, nt⟩, fun z => nw (.inl z), ?_⟩
      show C.H0 a = none
      cases q : C.H0 a with
      | none => rfl
      | some u => exact absurd hp (R.snc.there a (by rw [q]; simp))
/-- and given to a name -/
theorem Rl.setOwn {i : Nat} {d : D} {p : Addr} (R : Rl G.toGx (hideC C p) ρ st ι σ H) (hi : i < ρ.length) (nw : ¬ Wr C ι ρ σ p) (h : OwnR G.toGx ι (fun b => Wr C ι ρ σ b ∨ b = p) H d p) : Rl G.toGx C (ρ.set i (.own d)) st ι (σ.set i (some (.ref p))) H := by
  have hl : i < σ.length := by rw [R.len]; exact hi
  have off : ∀ {j : Nat} {x : Sl}, i ≠ j → (ρ.set i (.own d))[j]? = some x → ρ[j]? = some x := fun q e => by rwa [List.getElem?_set_ne q] at e
  have offV : ∀ {j : Nat}, i ≠ j → (σ.set i (some (V.ref p)))[j]? = σ[j]? := fun q => List.getElem?_set_ne q
  have hw : ∀ a, Wr C ι (ρ.set i (.own d)) (σ.set i (some (.ref p))) a → Wr C ι ρ σ a ∨ a = p := fun a z => by
    rcases z with z | z | ⟨j, e, z1, z2⟩ | z
    · exact .inl (.inl z)
    · exact .inl (.inr (.inl z))
    · by_cases q : i = j
      · subst q
        rw [List.getElem?_set_self hl] at z2
        cases z2
        exact .inr rfl
      · rw [offV q] at z2
        exact .inl (.inr (.inr (.inl ⟨j, e, off q z1, z2⟩)))
    · exact .inl (.inr (.inr (.inr z)))
  have hw2 : ∀ a, Wr C ι (ρ.set i (.own d)) (σ.set i (some (.ref p))) a → Wr (hideC C p) ι ρ σ a := fun a z => by
    rcases hw a z with z | z
    · rcases z with z | z | z | z
      · exact .inl z
      · exact .inr (.inl z)
      · exact .inr (.inr (.inl z))
      · exact .inr (.inr (.inr (.inl z)))
    · exact .inr (.inr (.inr (.inr z)))
  have an := Snd.anti (ι := ι) (H := H) hw2
  obtain ⟨hx, ni, n0⟩ := R.hidO p (.inr rfl)
  refine ⟨⟨R.snc.pre, R.snc.keep, R.snc.new, R.snc.there, R.snc.z, R.snc.tabs⟩, by rw [List.length_set, List.length_set]; exact R.len, ⟨R.sto.len, R.sto.nd, R.sto.fl, fun m ds e => ?_⟩, fun j x e => ?_, fun j e a h1 h2 => ?_, fun j l d1 d2 a h1 h2 h3 h4 => ?_, fun a ha => R.hidO a (.inl ha)⟩
  · obtain ⟨a, vs, e1, e2, e3⟩ := R.sto.at_ m ds e
    exact ⟨a, vs, e1, e2, Rps.mono an ds vs e3⟩
  · by_cases q : i = j
    · subst q
      rw [List.getElem?_set_self hi] at e
      cases e
      rw [List.getElem?_set_self hl]
      exact ⟨p, rfl, h.mono (Snd.anti hw) fun _ z => z⟩
    · rw [offV q]
      exact (R.slot j x (off q e)).mono an fun _ _ _ _ _ z => z
  · by_cases q : i = j
    · subst q
      rw [List.getElem?_set_self hl] at h2
      cases h2
      exact ⟨ni, fun z => nw (.inr (.inl z)), n0⟩
    · rw [offV q] at h2
      exact R.ownO j e a (off q h1) h2
  · have one : ∀ {j : Nat} {d1 : D}, i ≠ j → (ρ.set i (.own d))[j]? = some (Sl.own d1) → σ[j]? = some (some (V.ref p)) → False := fun q z1 z2 => nw (.inr (.inr (.inl ⟨_, _, off q z1, z2⟩)))
    by_cases q : i = j
    · by_cases q2 : i = l
      · rw [← q, ← q2]
      · subst q
        rw [List.getElem?_set_self hl] at h2
        cases h2
        rw [offV q2] at h4
        exact (one q2 h3 h4).elim
    · by_cases q2 : i = l
      · subst q2
        rw [List.getElem?_set_self hl] at h4
        cases h4
        rw [offV q] at h2
        exact (one q h1 h2).elim
      · rw [offV q] at h2
        rw [offV q2] at h4
        exact R.ownI j l d1 d2 a (off q h1) h2 (off q2 h3) h4
theorem setOwn_stp {i : Nat} {d : D} {p : Addr} (S : StpE ι H ι' H') (hp : H p = none) (hl : i < σ.length) : Stp ι (Wr C ι ρ σ) H ι' (Wr C ι' (ρ.set i (.own d)) (σ.set i (some (.ref p)))) H' :=
  ⟨S.pre, fun a u e n nt => S.keep a u e (fun z => n (.inl z)) nt, fun a z => by
    rcases z with z | z | ⟨j, e, z1, z2⟩ | z
    · exact (S.inew a z).elim (fun z => .inl (.inl z)) .inr
    · exact .inl (.inr (.inl z))
    · by_cases q : i = j
      · subst q
        rw [List.getElem?_set_self hl] at z2
        cases z2
        exact .inr hp
      · rw [List.getElem?_set_ne q] at z1 z2
        exact .inl (.inr (.inr (.inl ⟨j, e, z1, z2⟩)))
    · exact .inl (.inr (.inr (.inr z))), S.there⟩
theorem ss_setOwn {i : Nat} {x : Str} {e : Expr} {g : Ev} {pos pos' : Pos} (hN : X.N.Nodup) (hi : X.N[i]? = some x) (hx : Loc X.env.scope x) (h : PE X e (tE G C .fresh g)) (hs : swapsWith e (some (.Name x pos')) pos.line X.env = pure false)
    (hf : X.fn x = true ∨ X.env.scope.names.lookup x = some .local) : PS X (.Assign [.Name x pos'] e pos) (tSt G C (setG i true g)) := by
  refine psMono (ps_set hN hi hx h hs hf) fun F σ H ⟨ρ, st, ι, R, q⟩ => tE_st R q fun y st1 v ι1 H1 e1 R1 S1 w1 q1 => ?_
  cases ho : Mini.setO ρ i true y with
  | none => rw [ho] at q1; exact q1.elim
  | some ρ1 =>
    rw [ho] at q1
    obtain ⟨hl, io, rfl⟩ := setO_own ho
    obtain ⟨p, rfl, hp, nw, hown⟩ := w1.2 io
    obtain ⟨o, ho', nt⟩ := hown.there
    exact q1 ι1 _ H1 ((R.hide S1 R1 hp nw ho' nt).setOwn hl nw hown) (setOwn_stp S1 hp (by rw [R.len]; exact hl))
/-- the list of a name is written no more -/
theorem Rl.freeze {i : Nat} {d : D} (hh : ∀ a, ¬ C.hid a) (R : Rl G.toGx C ρ st ι σ H) (e : ρ[i]? = some (.own d)) : Rl G.toGx C (ρ.set i (.val d)) st ι σ H ∧ ∀ a, Wr C ι (ρ.set i (.val d)) σ a → Wr C ι ρ σ a := by
  obtain ⟨hi, _⟩ := List.getElem?_eq_some_iff.mp e
  obtain ⟨p, ep, hown⟩ := R.slot i _ e
  have es : σ.set i (some (V.ref p)) = σ := List.ext_getElem? fun j => by
    by_cases q : i = j
    · subst q
      rw [List.getElem?_set_self (by rw [R.len]; exact hi), ep]
    · rw [List.getElem?_set_ne q]
  have own2 : ∀ a, OwnAt (ρ.set i (.val d)) (σ.set i (some (V.ref p))) a → OwnAt ρ σ a ∧ a ≠ p := fun a ⟨j, d2, z1, z2⟩ => by
    have q : i ≠ j := fun q => by
      subst q
      rw [List.getElem?_set_self hi] at z1
      cases z1
    rw [List.getElem?_set_ne q] at z1 z2
    refine ⟨⟨j, d2, z1, z2⟩, fun z => ?_⟩
    subst z
    exact q (R.ownI i j d d2 a e ep z1 z2)
  obtain ⟨n1, n2, _⟩ := R.ownO i d p e ep
  have nw : ¬ Wr C ι (ρ.set i (.val d)) (σ.set i (some (V.ref p))) p := fun z => by
    rcases z with z | z | z | z
    · exact n1 z
    · exact n2 z
    · exact (own2 p z).2 rfl
    · exact hh p z
  have key := R.setX (i := i) (x := .val d) (v := some (.ref p)) (fun _ z => by cases z) hi fun hw => by
    refine ⟨.ref p, rfl, ?_⟩
    cases d with
    | lst ds =>
      obtain ⟨vs, h1, h2⟩ := hown
      exact .lst (.inl ⟨.inl h1, nw⟩) (Rps.mono (Snd.anti hw) _ _ h2)
    | dic ks vs =>
      obtain ⟨wv, xs, h1, h2, h3, h4, h5, h6⟩ := hown
      exact .dic h1 nw (Rps.mono (Snd.anti hw) _ _ h2) h3 h4 h5 (Rps.mono (Snd.anti hw) _ _ h6)
    | _ => exact hown.elim
  rw [es] at key
  refine ⟨key, fun a z => ?_⟩
  have z2 : Wr C ι (ρ.set i (.val d)) (σ.set i (some (V.ref p))) a := by rw [es]; exact z
  exact wr_off (fun _ z => by cases z) z2
/-- between statements -/
theorem sb_freeze {i : Nat} {rest : List Stmt} {h : EvSt} (hh : ∀ a, ¬ C.hid a) (h2 : PSs X rest (tSt G C h)) : PSs X rest (tSt G C (seqG (fun ρ st => match ρ[i]? with
    | some (.own d) => .nx (ρ.set i (.val d)) st
    | _ => .stuck) h)) := by
  refine pssMono h2 fun F σ H ⟨ρ, st, ι, R, q⟩ => ?_
  unfold seqG at q
  dsimp only at q
  cases e : ρ[i]? with
  | none => rw [e] at q; exact q.elim
  | some s =>
    rw [e] at q
    cases s <;> first | exact q.elim | skip
    obtain ⟨R', hw⟩ := R.freeze hh e
    exact ⟨_, st, ι, R', PostSt.from (Snd.anti hw) q⟩
end
end Snd
end
section
set_option maxRecDepth 100000
set_option maxHeartbeats 4000000
/-! Snd18: lists written in place; several names at once. -/
namespace Snd
open PySem PySem.Spec PyProof.Rows L2
open Mini (D Sl Xc Res SRes Ex Ar Itr Stm Tgt)
section
variable {G : Gy} {C : FCx} {X : Cx} {n : Nat} {ι ι' : List Addr} {W W' : Addr → Prop} {H H' : Hp} {ρ ρ' : Mini.Env} {st st' : Mini.Store} {σ σ' : L2.St} {k : Kd} {F : Ends}
theorem th_upd {p : Addr} {o : HO} : ∀ a, H a ≠ none → upd H p o a ≠ none := fun a z => by
  by_cases q : a = p
  · rw [q, upd_same]; simp
  · rw [upd_ne q]; exact z
/-- an own list is written -/
theorem Rl.ownSet {i : Nat} {ds ds' : List D} {p : Addr} {vs vs' : List V} (R : Rl G.toGx C ρ st ι σ H) (e : ρ[i]? = some (.own (.lst ds))) (ep : σ[i]? = some (some (.ref p))) (h : H p = some (.lst vs)) (r : Rps G.toGx ι (Wr C ι ρ σ) H ds' vs') :
    Rl G.toGx C (ρ.set i (.own (.lst ds'))) st ι σ (upd H p (.lst vs')) ∧ Stp ι (Wr C ι ρ σ) H ι (Wr C ι (ρ.set i (.own (.lst ds'))) σ) (upd H p (.lst vs')) := by
  obtain ⟨hi, _⟩ := List.getElem?_eq_some_iff.mp e
  obtain ⟨n1, n2, n3⟩ := R.ownO i _ p e ep
  have hOwn : ∀ a, OwnAt (ρ.set i (.own (.lst ds'))) σ a ↔ OwnAt ρ σ a := fun a => by
    constructor
    · rintro ⟨j, d, z1, z2⟩
      by_cases q : i = j
      · subst q
        exact ⟨i, _, e, z2⟩
      · rw [List.getElem?_set_ne q] at z1
        exact ⟨j, d, z1, z2⟩
    · rintro ⟨j, d, z1, z2⟩
      by_cases q : i = j
      · subst q
        exact ⟨i, _, List.getElem?_set_self hi, z2⟩
      · exact ⟨j, d, by rw [List.getElem?_set_ne q]; exact z1, z2⟩
  have hw : ∀ a, Wr C ι (ρ.set i (.own (.lst ds'))) σ a → Wr C ι ρ σ a := fun a z => by
    rcases z with z | z | z | z
    · exact .inl z
    · exact .inr (.inl z)
    · exact .inr (.inr (.inl ((hOwn a).mp z)))
    · exact .inr (.inr (.inr z))
  have wp : Wr C ι ρ σ p := .inr (.inr (.inl ⟨i, _, e, ep⟩))
  have S : Stp ι (Wr C ι ρ σ) H ι (Wr C ι (ρ.set i (.own (.lst ds'))) σ) (upd H p (.lst vs')) := ⟨⟨[], by simp⟩, fun a o q nw _ => by rw [upd_ne fun z => nw (by rw [z]; exact wp)]; exact q, fun a z => .inl (hw a z), th_upd⟩
  have off : ∀ {j : Nat} {x : Sl}, i ≠ j → (ρ.set i (.own (.lst ds')))[j]? = some x → ρ[j]? = some x := fun q z => by rwa [List.getElem?_set_ne q] at z
  refine ⟨⟨⟨R.snc.pre, fun a o q n nt => ?_, R.snc.new, fun a z => th_upd a (R.snc.there a z), R.snc.z, tabs_lst h R.snc.tabs⟩, by rw [List.length_set]; exact R.len, ⟨R.sto.len, R.sto.nd, R.sto.fl, fun m us q => ?_⟩, fun j x q => ?_, fun j d a z1 z2 => ?_, fun j l d1 d2 a z1 z2 z3 z4 => ?_, fun a ha => ?_⟩, S⟩
  · rw [upd_ne fun z => by rw [z, n3] at q; cases q]
    exact R.snc.keep a o q n nt
  · obtain ⟨a, ws, e1, e2, e3⟩ := R.sto.at_ m us q
    refine ⟨a, ws, e1, ?_, Rps.mono S us ws e3⟩
    rw [upd_ne fun z => n1 (by rw [← z]; exact List.mem_of_getElem? e1)]
    exact e2
  · by_cases z : i = j
    · subst z
      rw [List.getElem?_set_self hi] at q
      cases q
      exact ⟨p, ep, vs', upd_same, Rps.mono S _ _ r⟩
    · refine (R.slot j x (off z q)).mono S fun d a h1 h2 o h3 => ?_
      subst h1
      rw [upd_ne fun z2 => z (R.ownI i j _ d a e (by rw [z2]; exact ep) (off z q) h2)]
      exact h3
  · by_cases z : i = j
    · subst z
      exact R.ownO i _ a e z2
    · exact R.ownO j d a (off z z1) z2
  · by_cases z : i = j
    · by_cases z' : i = l
      · rw [← z, ← z']
      · subst z
        exact R.ownI i l _ d2 a e z2 (off z' z3) z4
    · by_cases z' : i = l
      · subst z'
        exact R.ownI j i d1 _ a (off z z1) z2 e z4
      · exact R.ownI j l d1 d2 a (off z z1) z2 (off z' z3) z4
  · obtain ⟨⟨o, h1, nt⟩, h2⟩ := R.hidO a ha
    by_cases q : a = p
    · rw [q, upd_same]
      exact ⟨⟨_, rfl, .inl ⟨_, rfl⟩⟩, by rw [← q]; exact h2⟩
    · rw [upd_ne q]
      exact ⟨⟨o, h1, nt⟩, h2⟩
theorem ints_set : ∀ {ds : List D} {j : Nat} {i : Int}, (Mini.intL ds).isSome = true → (Mini.intL (ds.set j (.int i))).isSome = true
  | [], _, _, h => h
  | d :: ds, 0, i, h => by
    cases d <;> first | (exact absurd (show (none : Option (List Int)).isSome = true from h) (by simp)) | skip
    rename_i b
    have h : ((Mini.intL ds).map (b :: ·)).isSome = true := h
    show ((Mini.intL ds).map (i :: ·)).isSome = true
    simpa using h
  | d :: ds, j + 1, i, h => by
    cases d <;> first | (exact absurd (show (none : Option (List Int)).isSome = true from h) (by simp)) | skip
    rename_i b
    have h : ((Mini.intL ds).map (b :: ·)).isSome = true := h
    have h2 : (Mini.intL ds).isSome = true := by simpa using h
    have h3 := ints_set (j := j) (i := i) h2
    show ((Mini.intL (ds.set j (.int i))).map (b :: ·)).isSome = true
    simpa using h3
theorem ints_flat : ∀ {ds : List D} {vs : List V}, (Mini.intL ds).isSome = true → Rps G.toGx ι W H ds vs → Rps G.toGx ι' W' H' ds vs
  | [], _, _, r => match r with | .nil => .nil
  | d :: ds, _, h, r => by
    cases r with
    | cons r1 r2 =>
      cases d <;> first | (exact absurd (show (none : Option (List Int)).isSome = true from h) (by simp)) | skip
      rename_i b
      have h : ((Mini.intL ds).map (b :: ·)).isSome = true := h
      have h2 : (Mini.intL ds).isSome = true := by simpa using h
      cases r1
      exact .cons (.int _) (ints_flat h2 r2)
/-- a cell is written -/
theorem Rl.cellSet {c : Nat} {ds' : List D} {p : Addr} {us vs' : List V} (R : Rl G.toGx C ρ st ι σ H) (ec : ι[c]? = some p) (h : H p = some (.lst us)) (fl : (Mini.intL ds').isSome = true) (r : Rps G.toGx ι (Wr C ι ρ σ) H ds' vs') :
    Rl G.toGx C ρ (st.set c ds') ι σ (upd H p (.lst vs')) ∧ StpE ι H ι (upd H p (.lst vs')) := by
  have mp : p ∈ ι := List.mem_of_getElem? ec
  have S : StpE ι H ι (upd H p (.lst vs')) := ⟨⟨[], by simp⟩, fun a o q nm _ => by rw [upd_ne fun z => nm (by rw [z]; exact mp)]; exact q, fun a z => .inl z, th_upd⟩
  refine ⟨R.after S ⟨by rw [List.length_set]; exact R.sto.len, R.sto.nd, fun m ds e => ?_, fun m ds e => ?_⟩ (tabs_lst h R.snc.tabs), S⟩
  · by_cases q : c = m
    · subst q
      have hl : c < st.length := by rw [← R.sto.len]; exact (List.getElem?_eq_some_iff.mp ec).1
      rw [List.getElem?_set_self hl] at e
      cases e
      exact fl
    · rw [List.getElem?_set_ne q] at e
      exact R.sto.fl m ds e
  · by_cases q : c = m
    · subst q
      have hl : c < st.length := by rw [← R.sto.len]; exact (List.getElem?_eq_some_iff.mp ec).1
      rw [List.getElem?_set_self hl] at e
      cases e
      exact ⟨p, vs', ec, upd_same, ints_flat fl r⟩
    · rw [List.getElem?_set_ne q] at e
      obtain ⟨a, ws, e1, e2, e3⟩ := R.sto.at_ m ds e
      refine ⟨a, ws, e1, ?_, ints_flat (R.sto.fl m ds e) e3⟩
      rw [upd_ne fun z => ?_]
      · exact e2
      · rw [← z] at ec
        obtain ⟨l1, v1⟩ := List.getElem?_eq_some_iff.mp ec
        obtain ⟨l2, v2⟩ := List.getElem?_eq_some_iff.mp e1
        exact q ((List.getElem_inj R.sto.nd).mp (v1.trans v2.symm))
/-- x.append(e) -/
abbrev appG (i : Nat) (g : Ev) : EvSt := fun ρ st => match ρ[i]? with
  | some (.own (.lst xs)) => (g ρ st).toS fun d st1 => if Mini.fits (d :: xs) then .nx (ρ.set i (.own (.lst (xs ++ [d])))) st1 else .stuck
  | _ => .stuck
theorem ss_append {i : Nat} {x : Str} {e : Expr} {g : Ev} {apos cpos pos npos : Pos} (hX : XOk G X n) (hi : X.N[i]? = some x) (hv : Vis X.env.scope x) (hd : (x == ("__debug__" : Str)) = false) (hcd : (x == ("__classdict__" : Str)) = false) (ns : NoStar e) (h : PE X e (tE G C .strong g))
    (hline : (apos.endLine == cpos.line) = true) :
    PS X (.Expr (.Call (.Attribute (.Name x npos) "append" apos) [e] [] cpos) pos) (tSt G C (appG i g)) := by
  have key := pe_bm (X := X) F.plainAttrs_list F.slot_list_append F.type_list_append mt_append (pe_var (pos := npos) hi hv hd hcd) (pa_cons h pa_nil (star_cons ns _ _)) (apos := apos) (cpos := cpos) rfl (by rw [star_cons ns]; rfl) hline (star_cons ns _ _) rfl
  refine psMono (ps_expr key rfl) fun F σ H ⟨ρ, st, ι, R, q⟩ => ?_
  have q : PostSt G C ρ ι σ H (appG i g ρ st) F := q
  unfold appG at q
  cases e : ρ[i]? with
  | none => rw [e] at q; exact q.elim
  | some s =>
    rw [e] at q
    cases s <;> first | exact q.elim | skip
    rename_i d
    cases d <;> first | exact q.elim | skip
    rename_i xs
    obtain ⟨p, ep, vs, h1, h2⟩ := R.slot i _ e
    refine ⟨.ref p, ep, .inl ⟨rfl, vs, SqL.of h1⟩, tE_st R q fun y st1 v ι1 H1 e1 R1 S1 w1 q1 => ?_⟩
    split at q1
    · rename_i hz
      have hz := fits_of hz
      rw [List.length_cons] at hz
      obtain ⟨n1, n2, n3⟩ := R.ownO i _ p e ep
      have h3 := S1.keep p _ h1 n1 fun _ z => by cases z
      have r3 := Rps.mono S1.stp _ _ h2
      have w1 : Rp G.toGx ι1 (Wr C ι1 ρ σ) H1 y v := w1
      refine ⟨p, vs, v, rfl, rfl, h3, by rw [← h2.length]; omega, ?_⟩
      obtain ⟨R2, S2⟩ := R1.ownSet e ep h3 (r3.app (.cons w1 .nil))
      exact q1 ι1 σ _ R2 (S1.stp.trans S2)
    · exact q1.elim

/-! ### x[k] = v -/
abbrev putG (i : Nat) (gk gv : Ev) : EvSt := fun ρ st => (gv ρ st).toS fun y st1 => if Mini.putOk ρ i then (gk ρ st1).toS fun x st2 => Mini.putD ρ i x y st2 else .stuck
theorem put_own {i : Nat} {x y : D} {r : SRes} (h : Mini.putD ρ i x y st = r) (hr : r ≠ .stuck) :
    (∃ xs j m, ρ[i]? = some (.own (.lst xs)) ∧ x = .int j ∧ Mini.ixN xs.length j = some m ∧ r = .nx (ρ.set i (.own (.lst (xs.set m y)))) st) ∨
    (∃ c xs j m z, ρ[i]? = some (.val (.cell c)) ∧ x = .int j ∧ y = .int z ∧ st[c]? = some xs ∧ Mini.ixN xs.length j = some m ∧ r = .nx ρ (st.set c (xs.set m y))) := by
  unfold Mini.putD at h
  split at h
  · rename_i xs e
    split at h
    · rename_i j
      split at h
      · rename_i m hm
        exact .inl ⟨xs, j, m, e, rfl, hm, h.symm⟩
      · exact absurd h.symm hr
    · exact absurd h.symm hr
  · rename_i c e
    split at h
    · rename_i j xs z e2
      split at h
      · rename_i m hm
        exact .inr ⟨c, xs, j, m, z, e, rfl, rfl, e2, hm, h.symm⟩
      · exact absurd h.symm hr
    · exact absurd h.symm hr
  · exact absurd h.symm hr
theorem ss_put {i : Nat} {x : Str} {ek ev : Expr} {gk gv : Ev} {k1 : Kd} {pos npos spos : Pos} (hX : XOk G X n) (hi : X.N[i]? = some x) (hv : Vis X.env.scope x) (hd : (x == ("__debug__" : Str)) = false) (hcd : (x == ("__classdict__" : Str)) = false)
    (hk : PE X ek (tE G C k1 gk)) (hval : PE X ev (tE G C .strong gv)) (hs : swapsWithSole [.Subscript (.Name x npos) ek spos] ev pos.line X.env = pure false)
    (ha : ∀ v, assign (.Subscript (.Name x npos) ek spos) X.env v = (do let ov ← holding [v] (eval (.Name x npos) X.env); let iv ← holding [v, ov] (eval ek X.env); standAt spos; holding [v, ov, iv] (setItem ov iv v); release [v, ov, iv] [])) :
    PS X (.Assign [.Subscript (.Name x npos) ek spos] ev pos) (tSt G C (putG i gk gv)) := by
  refine psMono (ps_asg hval (pg_sub (pe_var (pos := npos) hi hv hd hcd) hk set_list ha) hs rfl rfl) fun F σ H ⟨ρ, st, ι, R, q⟩ => tE_st R q fun y st1 v ι1 H1 e1 R1 S1 w1 q1 => ?_
  have w1 : Rp G.toGx ι1 (Wr C ι1 ρ σ) H1 y v := w1
  have q1 := PostSt.from (ρ' := ρ) (σ' := σ) S1.stp q1
  split at q1
  · rename_i hok
    obtain ⟨p, ep⟩ : ∃ p, σ[i]? = some (some (V.ref p)) := by
      unfold Mini.putOk at hok
      split at hok
      · rename_i xs e
        obtain ⟨p, ep, _⟩ := R1.slot i _ e
        exact ⟨p, ep⟩
      · rename_i c e
        obtain ⟨u, ep, r⟩ := R1.slot i _ e
        cases r with
        | cell _ => exact ⟨_, ep⟩
      · cases hok
    refine ⟨.ref p, ep, tE_st R1 q1 fun k2 st2 v2 ι2 H2 e2 R2 S2 w2 q2 => ?_⟩
    have w1 := Rp.mono S2.stp _ _ w1
    by_cases hr : Mini.putD ρ i k2 y st2 = .stuck
    · rw [hr] at q2
      exact q2.elim
    · rcases put_own rfl hr with ⟨xs, j, m, h1, rfl, h3, h4⟩ | ⟨c, xs, j, m, z, h1, rfl, rfl, h3, h4, h5⟩
      · rw [h4] at q2
        obtain ⟨p', ep', vs, h5, h6⟩ := R2.slot i _ h1
        rw [ep] at ep'
        cases ep'
        refine ⟨p, vs, j, m, rfl, w2.weak.int, h5, by rw [← h6.length]; exact h3, ?_⟩
        obtain ⟨R3, S3⟩ := R2.ownSet h1 ep h5 (h6.set m w1)
        exact q2 ι2 σ _ R3 (S2.stp.trans S3)
      · rw [h5] at q2
        obtain ⟨u, ep', r⟩ := R2.slot i _ h1
        rw [ep] at ep'
        cases ep'
        cases r with
        | cell hc =>
          obtain ⟨p2, vs, e3, e4, e5⟩ := R2.sto.at_ c xs h3
          rw [hc] at e3
          cases e3
          refine ⟨p, vs, j, m, rfl, w2.weak.int, e4, by rw [← e5.length]; exact h4, ?_⟩
          obtain ⟨R3, S3⟩ := R2.cellSet hc e4 (ints_set (R2.sto.fl c xs h3)) (e5.set m w1)
          exact q2 ι2 σ _ R3 (S2.trans S3).stp
  · exact q1.elim

/-! ### targets that are tuples -/
abbrev setTG (t : Tgt) (g : Ev) : EvSt := fun ρ st => (g ρ st).toS fun d st1 => Mini.nxO (Mini.bindT t d ρ) st1
theorem ss_setT {tg e : Expr} {t : Tgt} {g : Ev} {pos : Pos} (hg : PG X tg (tG G C t)) (h : PE X e (tE G C .strong g)) (nt : NoStar tg) (hs : swapsWithSole [tg] e pos.line X.env = pure false) (hw : swappedStores [tg] e X.env = pure none) :
    PS X (.Assign [tg] e pos) (tSt G C (setTG t g)) := by
  refine psMono (ps_asg h hg hs hw (by rw [assign_cons nt]; rfl)) fun F σ H ⟨ρ, st, ι, R, q⟩ => tE_st R q fun y st1 v ι1 H1 e1 R1 S1 w1 q1 => ?_
  cases hb : Mini.bindT t y ρ with
  | none => rw [hb] at q1; exact q1.elim
  | some ρ1 =>
    rw [hb] at q1
    exact ⟨ρ, st1, ι1, y, ρ1, R1, w1, hb, fun σ' R2 w2 _ => q1 ι1 σ' H1 R2 (S1.stp.trans (Snd.anti w2))⟩
/-- two, three names at once -/
abbrev parG (is : List Nat) (gs : EvL) : EvSt := fun ρ st => match gs ρ st with
  | .ok ds st1 => Mini.nxO (Mini.setOs ρ is (is.map fun _ => false) ds) st1
  | .raise x st1 => .raise x st1
  | .stuck => .stuck
theorem setOs_cons {i : Nat} {is : List Nat} {os : List Bool} {o : Bool} {ds : List D} {ρ1 : Mini.Env} (h : Mini.setOs ρ (i :: is) (o :: os) ds = some ρ1) : ∃ d ds' ρ0, ds = d :: ds' ∧ Mini.setO ρ i o d = some ρ0 ∧ Mini.setOs ρ0 is os ds' = some ρ1 := by
  cases ds with
  | nil => cases h
  | cons d ds =>
    obtain ⟨ρ0, h1, h2⟩ := Option.bind_eq_some_iff.mp (show (Mini.setO ρ i o d).bind (fun ρ0 => Mini.setOs ρ0 is os ds) = some ρ1 from h)
    exact ⟨d, ds, ρ0, rfl, h1, h2⟩
theorem setOs_nil {os : List Bool} {ds : List D} {ρ1 : Mini.Env} (h : Mini.setOs ρ [] os ds = some ρ1) : ds = [] ∧ ρ1 = ρ := by
  cases os <;> cases ds <;> first | exact ⟨rfl, (Option.some.inj h).symm⟩ | cases h
/-- one value after another -/
theorem Rl.setVals : ∀ {is : List Nat} {ds : List D} {vs : List V} {ρ ρ1 : Mini.Env} {σ : L2.St}, Rl G.toGx C ρ st ι σ H → Mini.setOs ρ is (is.map fun _ => false) ds = some ρ1 → Rps G.toGx ι (Wr C ι ρ σ) H ds vs →
    ∃ σ1, σ1 = (is.zip vs).foldl (fun σ p => σ.set p.1 (some p.2)) σ ∧ vs.length = is.length ∧ Rl G.toGx C ρ1 st ι σ1 H ∧ ∀ a, Wr C ι ρ1 σ1 a → Wr C ι ρ σ a
  | [], ds, vs, ρ, ρ1, σ, R, h, r => by
    obtain ⟨rfl, rfl⟩ := setOs_nil h
    cases r
    exact ⟨σ, rfl, rfl, R, fun _ z => z⟩
  | i :: is, ds, vs, ρ, ρ1, σ, R, h, r => by
    obtain ⟨d, ds', ρ0, rfl, h1, h2⟩ := setOs_cons h
    obtain ⟨hl, rfl⟩ := setO_val h1
    cases r with
    | cons r1 r2 =>
      rename_i v vs
      have hw : ∀ a, Wr C ι (ρ.set i (.val d)) (σ.set i (some v)) a → Wr C ι ρ σ a := fun a => wr_off fun _ z => by cases z
      obtain ⟨σ1, e1, e2, R1, w1⟩ := Rl.setVals (R.setVal hl r1) h2 (Rps.mono (Snd.anti hw) _ _ r2)
      exact ⟨σ1, e1, by simp [e2], R1, fun a z => hw a (w1 a z)⟩
theorem ss_par2 {i j : Nat} {x y : Str} {a b : Expr} {gs : EvL} {px py pt pt2 pos : Pos} {kt k2 : Nat} (hX : XOk G X n) (hN : X.N.Nodup) (hi : X.N[i]? = some x) (hj : X.N[j]? = some y) (hij : i ≠ j)
    (hx : X.env.scope.names.lookup x = some .local) (hy : X.env.scope.names.lookup y = some .local) (ha : PA X [a, b] (tA G C gs))
    (hw : swappedStores [.Tuple [.Name x px, .Name y py] kt pt] (.Tuple [a, b] k2 pt2) X.env = pure (some [x, y])) :
    PS X (.Assign [.Tuple [.Name x px, .Name y py] kt pt] (.Tuple [a, b] k2 pt2) pos) (tSt G C (parG [i, j] gs)) := by
  refine psMono (ps_par hX.calm hN hi hj hij hx hy ha hw rfl) fun F σ H ⟨ρ, st, ι, R, q⟩ => ⟨ρ, st, ι, R, ?_⟩
  have q : PostSt G C ρ ι σ H (parG [i, j] gs ρ st) F := q
  unfold parG at q
  cases e : gs ρ st with
  | stuck => rw [e] at q; exact q
  | raise x st1 => rw [e] at q; exact fun cls dx ι' H' R' => q cls dx ρ ι' σ H' R'
  | ok ds st1 =>
    rw [e] at q
    intro vs ι1 H1 R1 S1 w1
    have q : PostSt G C ρ ι σ H (Mini.nxO (Mini.setOs ρ [i, j] ([i, j].map fun _ => false) ds) st1) F := q
    cases ho : Mini.setOs ρ [i, j] ([i, j].map fun _ => false) ds with
    | none => rw [ho] at q; exact q.elim
    | some ρ1 =>
      rw [ho] at q
      obtain ⟨σ1, e1, e2, R2, hw⟩ := R1.setVals ho w1
      match vs, e2, e1 with
      | [v, w], _, e1 =>
        refine ⟨v, w, rfl, ?_⟩
        rw [show (σ.set i (some v)).set j (some w) = σ1 from e1.symm]
        exact q ι1 σ1 H1 R2 (S1.stp.trans (Snd.anti hw))
theorem ss_par3 {i j l : Nat} {x y z : Str} {a b c : Expr} {gs : EvL} {px py pz pt pt2 pos : Pos} {kt k2 : Nat} (hX : XOk G X n) (hN : X.N.Nodup) (hi : X.N[i]? = some x) (hj : X.N[j]? = some y) (hl : X.N[l]? = some z) (hij : i ≠ j) (hil : i ≠ l) (hjl : j ≠ l)
    (hx : X.env.scope.names.lookup x = some .local) (hy : X.env.scope.names.lookup y = some .local) (hz : X.env.scope.names.lookup z = some .local) (ha : PA X [a, b, c] (tA G C gs))
    (hw : swappedStores [.Tuple [.Name x px, .Name y py, .Name z pz] kt pt] (.Tuple [a, b, c] k2 pt2) X.env = pure (some [x, y, z])) :
    PS X (.Assign [.Tuple [.Name x px, .Name y py, .Name z pz] kt pt] (.Tuple [a, b, c] k2 pt2) pos) (tSt G C (parG [i, j, l] gs)) := by
  refine psMono (ps_par3 hX.calm hN hi hj hl hij hil hjl hx hy hz ha hw rfl) fun F σ H ⟨ρ, st, ι, R, q⟩ => ⟨ρ, st, ι, R, ?_⟩
  have q : PostSt G C ρ ι σ H (parG [i, j, l] gs ρ st) F := q
  unfold parG at q
  cases e : gs ρ st with
  | stuck => rw [e] at q; exact q
  | raise x st1 => rw [e] at q; exact fun cls dx ι' H' R' => q cls dx ρ ι' σ H' R'
  | ok ds st1 =>
    rw [e] at q
    intro vs ι1 H1 R1 S1 w1
    have q : PostSt G C ρ ι σ H (Mini.nxO (Mini.setOs ρ [i, j, l] ([i, j, l].map fun _ => false) ds) st1) F := q
    cases ho : Mini.setOs ρ [i, j, l] ([i, j, l].map fun _ => false) ds with
    | none => rw [ho] at q; exact q.elim
    | some ρ1 =>
      rw [ho] at q
      obtain ⟨σ1, e1, e2, R2, hw⟩ := R1.setVals ho w1
      match vs, e2, e1 with
      | [u, v, w], _, e1 =>
        refine ⟨u, v, w, rfl, ?_⟩
        rw [show ((σ.set i (some u)).set j (some v)).set l (some w) = σ1 from e1.symm]
        exact q ι1 σ1 H1 R2 (S1.stp.trans (Snd.anti hw))
end
end Snd
end
section
set_option maxRecDepth 100000
set_option maxHeartbeats 4000000
/-! Snd19: loops, raise. -/
namespace Snd
open PySem PySem.Spec PyProof.Rows L2
open Mini (D Sl Xc Res SRes Ex Ar Itr Stm Tgt)
section
variable {G : Gy} {C : FCx} {X : Cx} {n : Nat} {ι ι' : List Addr} {W W' : Addr → Prop} {H H' : Hp} {ρ ρ' : Mini.Env} {st st' : Mini.Store} {σ σ' : L2.St} {k : Kd} {F : Ends}
abbrev forG (t : Tgt) (gi : EvL) (gb : EvSt) : EvSt := fun ρ st => match gi ρ st with
  | .ok xs st1 => Mini.forL t gb xs ρ st1
  | .raise x st1 => .raise x st1
  | .stuck => .stuck
theorem ss_for {tg iter : Expr} {body : List Stmt} {t : Tgt} {gi : EvL} {gb : EvSt} {pos : Pos} (hX : XOk G X n) (hp : PassesOwn (model X.prog X.w) X.A X.env X.xe) (hi : PI X tg iter (tI G C gi)) (hg : PG X tg (tG G C t)) (hb : PSs X body (tSt G C gb))
    (hs : ∀ x, foldedSetIterable iter X.env x = pure x) : PS X (.For tg iter body [] pos) (tSt G C (forG t gi gb)) := by
  refine psMono (ps_for hp hX.calm hi hg hb hs) fun F σ H ⟨ρ, st, ι, R, q⟩ => ⟨ρ, st, ι, R, ?_⟩
  have q : PostSt G C ρ ι σ H (forG t gi gb ρ st) F := q
  unfold forG at q
  cases e : gi ρ st with
  | stuck => rw [e] at q; exact q
  | raise x st1 => rw [e] at q; exact fun cls dx ι' H' R' => q cls dx ρ ι' σ H' R'
  | ok xs st1 =>
    rw [e] at q
    intro J ι1 H1 R1 S1 ⟨Gd, Y, w, hgo⟩
    have q := PostSt.from (ρ' := ρ) (σ' := σ) S1.stp q
    refine for_it w (fun i σ2 H2 => ∃ ρ2 st2 ι2, Rl G.toGx C ρ2 st2 ι2 σ2 H2 ∧ Stp ι1 (Wr C ι1 ρ σ) H1 ι2 (Wr C ι2 ρ2 σ2) H2 ∧ PostSt G C ρ2 ι2 σ2 H2 (Mini.forL t gb (xs.drop i) ρ2 st2) F) ⟨ρ, st1, ι1, R1, Stp.refl, q⟩ ?_ ?_ ?_
    · rintro i σ2 H2 _ ⟨ρ2, st2, ι2, R2, S2, q2⟩
      exact (hgo ι2 _ H2 S2 fun p z => R2.w_there z).1
    · rintro i x σ2 H2 H3 hi2 ⟨ρ2, st2, ι2, R2, S2, q2⟩ y
      obtain ⟨hgrow, d, hd, rd⟩ := (hgo ι2 _ H2 S2 fun p z => R2.w_there z).2 i x H3 hi2 y
      have hx : xs.drop i = d :: xs.drop (i + 1) := by
        obtain ⟨hl, ev⟩ := List.getElem?_eq_some_iff.mp hd
        rw [List.drop_eq_getElem_cons hl, ev]
      rw [hx] at q2
      obtain ⟨R3, S3⟩ : Rl G.toGx C ρ2 st2 ι2 σ2 H3 ∧ StpE ι2 H2 ι2 H3 := by
        rcases hgrow with rfl | ⟨p, o, hp2, rfl⟩
        · exact ⟨R2, StpE.refl⟩
        · exact R2.new hp2
      unfold Mini.forL at q2
      cases eb : Mini.bindT t d ρ2 with
      | none => rw [eb] at q2; exact q2.elim
      | some ρ3 =>
        rw [eb] at q2
        refine ⟨ρ2, st2, ι2, d, ρ3, R3, rd, eb, fun σ3 R4 w4 _ => ⟨ρ3, st2, ι2, R4, ?_⟩⟩
        have S4 : Stp ι2 (Wr C ι2 ρ2 σ2) H2 ι2 (Wr C ι2 ρ3 σ3) H3 := S3.stp.trans (Snd.anti w4)
        have q3 := PostSt.from S4 q2
        dsimp only at q3
        cases er : gb ρ3 st2 with
        | nx ρ4 st4 =>
          rw [er] at q3
          exact fun ι4 σ4 H4 R5 S5 => ⟨ρ4, st4, ι4, R5, S2.trans (S4.trans S5), PostSt.from S5 q3⟩
        | cnt ρ4 st4 =>
          rw [er] at q3
          exact fun ι4 σ4 H4 R5 S5 => ⟨ρ4, st4, ι4, R5, S2.trans (S4.trans S5), PostSt.from S5 q3⟩
        | brk ρ4 st4 =>
          rw [er] at q3
          exact fun ι4 σ4 H4 R5 S5 => q3 ι4 σ4 H4 R5 S5
        | ret v st4 => rw [er] at q3; exact q3
        | raise v st4 => rw [er] at q3; exact q3
        | stuck => rw [er] at q3; exact q3
    · rintro σ2 H2 ⟨ρ2, st2, ι2, R2, S2, q2⟩
      rw [List.drop_length] at q2
      unfold Mini.forL at q2
      exact q2 ι2 σ2 H2 R2 Stp.refl
theorem ss_while {c : Expr} {body : List Stmt} {gc : Ev} {gb : EvSt} {m : Nat} {pos : Pos} (hp : PassesOwn (model X.prog X.w) X.A X.env X.xe) (hc : PT X c (tT G C (tr gc))) (hb : PSs X body (tSt G C gb)) :
    PS X (.While c body [] pos) (tSt G C (Mini.whileL (tr gc) gb m)) := by
  refine psMono (ps_while hp hc hb) fun F σ H ⟨ρ, st, ι, R, q⟩ => ?_
  refine ⟨fun m σ2 H2 => ∃ ρ2 st2 ι2, Rl G.toGx C ρ2 st2 ι2 σ2 H2 ∧ PostSt G C ρ2 ι2 σ2 H2 (Mini.whileL (tr gc) gb m ρ2 st2) F, ⟨m, ρ, st, ι, R, q⟩, ?_⟩
  rintro m σ2 H2 ⟨ρ2, st2, ι2, R2, q2⟩
  refine ⟨ρ2, st2, ι2, R2, ?_⟩
  cases m with
  | zero => exact q2.elim
  | succ m =>
    unfold Mini.whileL at q2
    cases e : tr gc ρ2 st2 with
    | stuck => rw [e] at q2; exact q2
    | raise x st3 => rw [e] at q2; exact fun cls dx ι' H' R' => q2 cls dx ρ2 ι' σ2 H' R'
    | ok b st3 =>
      rw [e] at q2
      intro ι3 H3 R3 S3
      have q3 := PostSt.from (ρ' := ρ2) (σ' := σ2) S3.stp q2
      cases b with
      | false => exact q3 ι3 σ2 H3 R3 Stp.refl
      | true =>
        refine ⟨fun σ4 H4 => ∃ ρ4 st4 ι4, Rl G.toGx C ρ4 st4 ι4 σ4 H4 ∧ PostSt G C ρ4 ι4 σ4 H4 (Mini.whileL (tr gc) gb m ρ4 st4) F, fun σ4 H4 h => ⟨m, Nat.lt_succ_self m, h⟩, ρ2, st3, ι3, R3, ?_⟩
        dsimp only at q3
        cases er : gb ρ2 st3 with
        | nx ρ4 st4 =>
          rw [er] at q3
          exact fun ι4 σ4 H4 R5 S5 => ⟨ρ4, st4, ι4, R5, PostSt.from S5 q3⟩
        | cnt ρ4 st4 =>
          rw [er] at q3
          exact fun ι4 σ4 H4 R5 S5 => ⟨ρ4, st4, ι4, R5, PostSt.from S5 q3⟩
        | brk ρ4 st4 =>
          rw [er] at q3
          exact fun ι4 σ4 H4 R5 S5 => q3 ι4 σ4 H4 R5 S5
        | ret v st4 => rw [er] at q3; exact q3
        | raise v st4 => rw [er] at q3; exact q3
        | stuck => rw [er] at q3; exact q3
/-- raise X('m') -/
theorem ss_raise {e : Expr} {x : Nat} {pos : Pos} (hX : XOk G X n) (tk : L2N.Takes X (fun cls d _ H => C.EE cls d H)) (h : L2N.PMk X e (fun _ H Q => Q (.ref (G.ex x)) none H)) : PS X (.Raise (some e) none pos) (tSt G C fun _ st => .raise ⟨x, none⟩ st) :=
  psMono (L2N.ps_raise hX.calm tk h) fun F σ H ⟨ρ, st, ι, R, q⟩ => q _ none ρ ι σ H R ⟨rfl, rfl⟩
end
end Snd
end
section
set_option maxRecDepth 100000
set_option maxHeartbeats 4000000
/-! SndA: functions made in a frame. -/
namespace Snd
open PySem PySem.Spec PyProof.Rows L2
open Mini (D Sl Xc Res SRes Ex Ar Itr Stm Tgt Prim)
section
variable {X : Cx} {pins : List (Addr × Obj)} {σ : L2.St} {H : Hp} {s : Shared}
theorem funO_ok {P : Program} {w : World} {H0 : Hp} {h : Heap} {f : Addr} {L : LamI} {cells : List (Str × Addr)} {pm : Value} {c' : Addr} {ctv : Value} (e : h.get? f = some (PySem.W.kla_obj "<lambda>" L.qual L.params L.body L.scope cells pm c' ctv)) : ObjOk P w H0 h f (funO f L cells pm c' ctv) :=
  ⟨e, ⟨_, e⟩, fun h1 h2 q st => st _ q⟩
theorem funO_at {P : Program} {w : World} {h : Heap} {f : Addr} {L : LamI} {cells : List (Str × Addr)} {pm : Value} {c' : Addr} {ctv : Value} (hok : HOk P w H h) (e : H f = some (funO f L cells pm c' ctv)) : h.get? f = some (PySem.W.kla_obj "<lambda>" L.qual L.params L.body L.scope cells pm c' ctv) := by
  obtain ⟨q, _, _⟩ := hok f _ e
  exact q
/-- a table that grew by one place still tells this name alone -/
theorem tab_grown {H1 : Hp} {P c' : Addr} {q : Str} {ps : Array Value} {pos : Pos} (ok : TriplesOk ps.toList) (old : ∀ p cv, codeAmong p ps.toList = some cv → ∃ c, cv = .ref c ∧ H1 c = some (LamX.CodeO c q))
    (atP : H1 P = some (.tbl (ps ++ #[rawInt pos.line, rawInt pos.col, .ref c']))) (atC : H1 c' = some (LamX.CodeO c' q)) : LamX.TabS H1 P q := by
  have listed : (ps ++ #[rawInt pos.line, rawInt pos.col, Value.ref c']).toList = ps.toList ++ [rawInt pos.line, rawInt pos.col, .ref c'] := Array.toList_append
  refine ⟨_, atP, ?_, ?_⟩ <;> rw [listed]
  · exact PySem.TriplesOk_snoc _ _ _ _ ok
  · intro p cv found
    exact (LamX.among_app _ ok found).elim (old p cv) fun e => ⟨c', e, atC⟩
/-- what stands just before the function object itself is laid: its code object is there and known -/
structure Ahead (X : Cx) (pins : List (Addr × Obj)) (σ : L2.St) (T : List (Addr × Str)) (H : Hp) (s : Shared) (L : LamI) (h1 : Heap) (tk : Nat) (c' : Addr) (H1 : Hp) : Prop where
  inv : Inv X pins σ H1 { s with heap := h1, toks := tk }
  up : s.heap.objs.size ≤ h1.objs.size
  ext : LamX.ExtN H H1
  tabs : LamX.Tabs T H1
  there : ∀ a, H a ≠ none → H1 a ≠ none
  code : H1 c' = some (LamX.CodeO c' L.qual)
/-- the code object was found -/
theorem ahead_hit {T : List (Addr × Str)} {L : LamI} {h1 : Heap} {tk : Nat} {c' : Addr} (I : Inv X pins σ H s) (tabs : LamX.Tabs T H) (kept : ∀ b o, s.heap.get? b = some o → h1.get? b = some o) (up : s.heap.objs.size ≤ h1.objs.size) (code : H c' = some (LamX.CodeO c' L.qual)) :
    Ahead X pins σ T H s L h1 tk c' H := ⟨I.kept kept, up, LamX.ExtN.refl H, tabs, fun _ z => z, code⟩
/-- the code object is new, the table at P has grown -/
theorem ahead_new {T : List (Addr × Str)} {L : LamI} {P : Addr} {ps : Array Value} {pos : Pos} {h1 : Heap} {tk : Nat} {c' : Addr} (I : Inv X pins σ H s) (tabs : LamX.Tabs T H) (one : ∀ p ∈ T, p.1 = P → p.2 = L.qual) (atP : H P = some (.tbl ps)) (ok : TriplesOk ps.toList)
    (old : ∀ p cv, codeAmong p ps.toList = some cv → ∃ c, cv = .ref c ∧ H c = some (LamX.CodeO c L.qual)) (kept : Heap.ExtBut P s.heap h1) (new : s.heap.objs.size ≤ c') (lt : c' < h1.objs.size) (rec_ : h1.CodeRec (.ref c') L.qual)
    (grown : h1.get? P = some { cls := .none, data := .fields (ps ++ #[rawInt pos.line, rawInt pos.col, .ref c']) }) : ∃ H1, Ahead X pins σ T H s L h1 tk c' H1 := by
  have free : H c' = none := I.hok.fresh new
  have objs : ∃ (oc : Obj) (vs : Array Value) (t : Tok), h1.get? c' = some oc ∧ oc.data = .fields vs ∧ vs[1]? = some (.str L.qual t) := by
    obtain ⟨_, oc, vs, t, same, g⟩ := rec_
    cases same
    exact ⟨oc, vs, t, g⟩
  have pc : P ≠ c' := ne_of_none atP free
  let H1 : Hp := upd (upd H P (.tbl (ps ++ #[rawInt pos.line, rawInt pos.col, .ref c']))) c' (LamX.CodeO c' L.qual)
  have atP1 : H1 P = some (.tbl (ps ++ #[rawInt pos.line, rawInt pos.col, .ref c'])) := (upd_ne pc).trans upd_same
  have else_ : ∀ a, a ≠ P → a ≠ c' → H1 a = H a := fun a n1 n2 => (upd_ne n2).trans (upd_ne n1)
  have ext : LamX.ExtN H H1 := by
    intro a o e notTable
    rw [else_ a _ (ne_of_none e free)]
    · exact e
    · rintro rfl
      rw [atP] at e
      exact notTable ps (Option.some.inj e).symm
  have atC1 : H1 c' = some (LamX.CodeO c' L.qual) := upd_same
  have old1 : ∀ p cv, codeAmong p ps.toList = some cv → ∃ c, cv = .ref c ∧ H1 c = some (LamX.CodeO c L.qual) := fun p cv e => let ⟨c, e1, e2⟩ := old p cv e; ⟨c, e1, ext _ _ e2 LamX.codeO_ne⟩
  refine ⟨H1, LamX.inv_table I atP kept grown new objs, Nat.le_trans new (Nat.le_of_lt lt), ext, ?_, ?_, atC1⟩
  · intro p hp
    by_cases same : p.1 = P
    · rw [one p hp same, same]
      exact tab_grown ok old1 atP1 atC1
    · obtain ⟨us, a1, a2, a3⟩ := tabs p hp
      refine ⟨us, ?_, a2, fun x cv e => ?_⟩
      · rw [else_ _ same (ne_of_none a1 free)]
        exact a1
      · obtain ⟨c, e1, e2⟩ := a3 x cv e
        exact ⟨c, e1, ext _ _ e2 LamX.codeO_ne⟩
  · intro a there
    by_cases n2 : a = c'
    · rw [n2, atC1]; exact Option.some_ne_none _
    · by_cases n1 : a = P
      · rw [n1, atP1]; exact Option.some_ne_none _
      · rw [else_ a n1 n2]; exact there
/-- a function is made; it is known from now on -/
theorem lam_new {T : List (Addr × Str)} {cc tp : Addr} {L : LamI} {pos : Pos} {E : Value → Shared → Prop} {Q : Value → Shared → Prop} (iv : Inv X pins σ H s) (TB : LamX.TabB X.base X.mg cc tp) (hcode : X.env.code = .ref cc) (hq : L.qual = X.env.qual ++ "<lambda>")
    (hm : (tp, L.qual) ∈ T) (hu : ∀ p ∈ T, p.1 = tp → p.2 = L.qual) (hT : LamX.Tabs T H) (hdef : defaultsOf L.params X.env = ([], [])) (hfree : ∀ y ∈ L.scope.names, y.2 = .free → ∃ c, X.env.cells.lookup y.1 = some c)
    (h : ∀ (f c' : Addr) (pm ctv : Value) (H1 : Hp) (s' : Shared), Inv X pins σ H1 s' → LamX.ExtN H H1 → LamX.Tabs T H1 → H f = none → (∀ a, H a ≠ none → H1 a ≠ none) → H1 f = some (funO f L (cloFrom X.env.cells L.scope.names []) pm c' ctv) → H1 c' = some (LamX.CodeO c' L.qual) → Q (.ref f) s') :
    wpAny (model X.prog X.w) X.A (eval (.Lambda L.params L.body L.scope pos) X.env) Q E s := by
  have known : LamX.TabS H tp L.qual := hT (tp, L.qual) hm
  obtain ⟨ps, atP, ok, old⟩ := known
  have tab : s.heap.get? tp = some { cls := .none, data := .fields ps } := iv.hok tp _ atP
  have globals := iv.mod.glob.keeps iv.bk
  have code := TB.code.keeps iv.bk
  have built := TB.bm.keeps iv.bk
  have laid : ∀ (h1 : Heap) (tk : Nat) (c' : Addr) (H1 : Hp) (pm ctv : Value), Ahead X pins σ T H s L h1 tk c' H1 → Q (.ref h1.objs.size) { s with heap := h1.push (PySem.W.kla_obj "<lambda>" L.qual L.params L.body L.scope (cloFrom X.env.cells L.scope.names []) pm c' ctv), toks := tk } := by
    intro h1 tk c' H1 pm ctv a
    have free1 : H1 h1.objs.size = none := a.inv.hok.fresh (Nat.le_refl _)
    have stays : ∀ b o, H1 b = some o → upd H1 h1.objs.size (funO h1.objs.size L (cloFrom X.env.cells L.scope.names []) pm c' ctv) b = some o := fun b o e => (upd_ne (ne_of_none e free1)).trans e
    refine h h1.objs.size c' pm ctv _ _ (a.inv.laid (fun b o e => Heap.get?_push_of_some _ e) (Nat.le_refl _) (funO_ok (L := L) (pm := pm) (ctv := ctv) (Heap.get?_push_size _ rfl))) ?_ (a.tabs.ext stays) (iv.hok.fresh a.up) ?_ upd_same (stays _ _ a.code)
    · exact a.ext.trans (LamX.ExtN.of stays)
    · intro b there
      obtain ⟨o, e⟩ := Option.ne_none_iff_exists'.mp (a.there b there)
      rw [stays b o e]
      exact Option.some_ne_none _
  apply PySem.W.kla_eval hdef
  rw [← hq]
  rcases found : codeAmong pos ps.toList with _ | cv
  · refine PySem.W.kla_makeFunction (closure_ok hfree) iv.ok.glob globals hcode code tab ok found TB.gP built ?_
    intro c' ctv h1 tk kept new lt rec_ grown
    obtain ⟨H1, a⟩ := ahead_new (tk := tk) iv hT hu atP ok old kept new lt rec_ grown
    exact laid h1 tk c' H1 _ ctv a
  · obtain ⟨c', rfl, atC⟩ := old pos cv found
    refine PySem.W.kla_makeFunctionHit (closure_ok hfree) iv.ok.glob globals hcode code tab ok found built ?_
    intro ctv h1 tk kept up
    exact laid h1 tk c' H _ ctv (ahead_hit iv hT kept up atC)
end
end Snd
end
section
set_option maxRecDepth 100000
set_option maxHeartbeats 4000000
/-! SndB: functions made, handed on. -/
namespace Snd
open PySem PySem.Spec PyProof.Rows L2
open Mini (D Sl Xc Res SRes Ex Ar Itr Stm Tgt Prim)
section
variable {G : Gy} {X : Cx} {C : FCx} {m n : Nat} {ι ι' : List Addr} {W W' Z : Addr → Prop} {H H' : Hp} {ρ ρ' : Mini.Env} {st st' : Mini.Store} {σ σ' : L2.St}
/-- what may be written is a list or a dict -/
theorem Rl.deck (R : Rl G.toGx C ρ st ι σ H) {a : Addr} (h : Wr C ι ρ σ a) : ∃ o, H a = some o ∧ Deck G.toGx a o := by
  rcases h with h | h | h | h
  · obtain ⟨vs, e⟩ := R.sto.there h
    exact ⟨_, e, .inl ⟨_, rfl⟩⟩
  · exact R.zt h
  · exact R.own_there h
  · exact (R.hidO a h).1
/-- .. so it is no code object -/
theorem deck_code {pins : List (Addr × Obj)} {s : Shared} {a : Addr} {o : HO} {q : Str} (I : Inv X pins σ H s) (e : H a = some o) (d : Deck G.toGx a o) (e2 : H a = some (LamX.CodeO a q)) : False := by
  obtain ⟨⟨oc, vs, t, h1, h2, h3⟩, _, _⟩ := I.hok a _ e2
  rcases d with ⟨us, rfl⟩ | ⟨xs, rfl⟩
  · rw [e] at e2
    unfold LamX.CodeO at e2
    cases e2
  · obtain ⟨⟨_, o2, es, ep, k1, k2, k3, _⟩, _, _⟩ := I.hok a _ e
    rw [h1] at k1
    cases k1
    rw [h2] at k3
    cases k3
theorem cap_inv (R : Rl G.toGx C ρ st ι σ H) : ∀ {js : List Nat} {ds : List D}, Mini.capD ρ js = some ds → ∃ ws : List V, Rps G.toGx ι (Wr C ι ρ σ) H ds ws ∧ js.map (NdefX.slotAt σ) = ws.map some
  | [], ds, h => by cases h; exact ⟨[], .nil, rfl⟩
  | j :: js, ds, h => by
    obtain ⟨d, h1, h2⟩ := Option.bind_eq_some_iff.mp (show (Mini.varD ρ j).bind (fun d => (Mini.capD ρ js).map (d :: ·)) = some ds from h)
    obtain ⟨ds', h3, rfl⟩ := Option.map_eq_some_iff.mp h2
    obtain ⟨ws, r, e⟩ := cap_inv R h3
    unfold Mini.varD at h1
    split at h1
    · rename_i d' hs
      cases h1
      obtain ⟨v, ev, rv⟩ := R.slot j _ hs
      exact ⟨v :: ws, .cons rv r, by rw [List.map_cons, List.map_cons, e, NdefX.slotAt_of ev]⟩
    · cases h1
/-- a function handed on -/
theorem s1_slot {i : Nat} {x : Str} {p : Pos} (hi : X.N[i]? = some x) (hv : Vis X.env.scope x) (hd : (x == ("__debug__" : Str)) = false) (hcd : (x == ("__classdict__" : Str)) = false) :
    PE X (.Name x p) (tS1 G C fun ρ st => Mini.lift (match ρ[i]? with | some (.clo k c) => some (Sl.clo k c) | _ => none) st) := by
  refine peMono (pe_var hi hv hd hcd) fun σ H Q ⟨ρ, st, ι, R, q⟩ => ?_
  have q : PostS1 G C ρ ι σ H (Mini.lift (match ρ[i]? with | some (.clo k c) => some (Sl.clo k c) | _ => none) st) Q := q
  cases e : ρ[i]? with
  | none => rw [e] at q; exact q.elim
  | some s =>
    rw [e] at q
    cases s <;> first | exact q.elim | skip
    rename_i k cap
    obtain ⟨f, ef, hc⟩ := R.slot i _ e
    exact ⟨.ref f, ef, q (.ref f) ι H R StpE.refl ⟨f, rfl, .inl hc⟩⟩
/-- a function made, handed on -/
theorem s1_lam {k : Nat} {L : LamI} {js : List Nat} {cc tp : Addr} {pos : Pos} (hL : G.lamOk k L) (hcl : C.cells = X.env.cells) (hnm : C.names = X.env.scope.names) (hcap : ∀ y ∈ L.cap, (y, NameKind.free) ∈ L.scope.names) (hN : js.map (fun j => C.N[j]?) = L.cap.map some) (TB : LamX.TabB X.base X.mg cc tp) (hcode : X.env.code = .ref cc) (hq : L.qual = X.env.qual ++ "<lambda>")
    (hm : (tp, L.qual) ∈ G.T) (hu : ∀ p ∈ G.T, p.1 = tp → p.2 = L.qual) (hdef : defaultsOf L.params X.env = ([], [])) (hfree : ∀ y ∈ L.scope.names, y.2 = .free → X.env.scope.names.lookup y.1 = some .cell ∨ X.env.scope.names.lookup y.1 = some .free) :
    PE X (.Lambda L.params L.body L.scope pos) (tS1 G C fun ρ st => Mini.lift ((Mini.capD ρ js).map (Sl.clo k)) st) := by
  refine ⟨fun pins s σ H Q I ⟨ρ, st, ι, R, q⟩ => ?_⟩
  have q : PostS1 G C ρ ι σ H (Mini.lift ((Mini.capD ρ js).map (Sl.clo k)) st) Q := q
  cases e : Mini.capD ρ js with
  | none => rw [e] at q; exact q.elim
  | some ds =>
    rw [e] at q
    have hf2 : ∀ y ∈ L.scope.names, y.2 = .free → ∃ c, X.env.cells.lookup y.1 = some c := fun y hy e => (hfree y hy e).elim (fun z => I.ok.has _ (.inl z)) fun z => I.ok.has _ (.inr z)
    refine lam_new I TB hcode hq hm hu R.snc.tabs hdef hf2 fun f c' pm ctv H1 s' I1 ext tabs hf th e1 e2 => ?_
    obtain ⟨R1, S1⟩ := R.grow ext tabs th
    obtain ⟨ws, r, ew⟩ := cap_inv R1 e
    refine ⟨.ref f, H1, I1, rfl, q (.ref f) ι H1 R1 S1 ⟨f, rfl, .inr ⟨L, hL, ⟨pm, c', ctv, by rw [hcl]; exact e1, R.fresh hf, e2, fun z => ?_⟩, ws, js, r, hN, ew, by rw [hnm]; exact hfree, hcap⟩⟩⟩
    obtain ⟨o, eo, d⟩ := R1.deck z
    exact deck_code I1 eo d e2
/-- what was handed on, as the callee gets it -/
theorem hands_of {ss : List Sl} (hcl : C.cells = X.env.cells) (hN : C.N = X.N) (hnm : C.names = X.env.scope.names) (hfn : ∀ x, X.fn x = true) (hlk : ∀ pins σ H s cells fr ws, Inv X pins σ H s → C.clo cells fr ws → cloAt X.stack s H cells fr ws) : Hands G X C ss := by
  intro pins σ H s ι W vs I p
  induction p with
  | nil => exact .nil
  | @cons x v ss vs a b ih =>
    refine .cons ?_ ih
    cases x with
    | val d => exact a
    | clo k cap =>
      obtain ⟨f, rfl, h⟩ := a
      refine ⟨f, rfl, ?_⟩
      rcases h with ⟨L, cells, pm, c', ctv, ws, h0, h1, h2, h3, h4, h5, h6⟩ | ⟨L, h0, ⟨pm, c', ctv, h1, h2, h3, h4⟩, ws, js, h5, h6, h7, hfr, hcap⟩
      · exact ⟨L, cells, pm, c', ctv, ws, h0, h1, h2, h3, h4, hlk pins σ H s cells L.cap ws I h5, h6⟩
      · rw [hN] at h6
        rw [hcl] at h1
        rw [hnm] at hfr
        have hf2 : ∀ y ∈ L.scope.names, y.2 = .free → ∃ c, X.env.cells.lookup y.1 = some c := fun y hy e => (hfr y hy e).elim (fun z => I.ok.has _ (.inl z)) fun z => I.ok.has _ (.inr z)
        have cp : NdefX.Caps X (cloFrom X.env.cells L.scope.names []) L.cap js := NdefX.Caps.made I.ok hfr hcap h6
        have ce := NdefX.cells_of I cp
        rw [h7] at ce
        refine ⟨L, _, pm, c', ctv, ws, h0, h1, h2, h3, h4, ⟨ce, fun y a e z => ?_⟩, h5⟩
        have ea := NdefX.clo_cm hf2 e
        rcases List.mem_cons.mp (I.stkSub a z) with z | z
        · exact I.cne y a ea z
        · obtain ⟨_, oz, hoz, _⟩ := I.ok.funs.mem z
          exact absurd (Nat.lt_of_lt_of_le (Heap.lt_size hoz) (I.ok.cab y a (hfn y) ea)) (Nat.lt_irrefl _)
    | _ => exact a.elim
end
end Snd
end
section
set_option maxRecDepth 100000
set_option maxHeartbeats 4000000
/-! SndC: calls of a name that holds a function made elsewhere. -/
namespace Snd
open PySem PySem.Spec PyProof.Rows L2
open Mini (D Sl Xc Res SRes Ex Ar Itr Stm Tgt Prim)
section
variable {G : Gy} {X : Cx} {C : FCx} {m n : Nat} {ι ι' : List Addr} {W W' Z : Addr → Prop} {H H' : Hp} {ρ ρ' : Mini.Env} {st st' : Mini.Store} {σ σ' : L2.St}
/-- its promise, at depth m -/
def FnL (G : Gy) (m k : Nat) (L : LamI) : Prop := ∀ (A : Around) (outer : List Env) (s : Shared) (H : Hp) (us : List Value) (vs : List V) (Q : VK) (E : XK) (f c' : Addr) (cells : List (Str × Addr)) (pm ctv : Value) (ws : List V) (ds cap : List D) (st : Mini.Store) (ι : List Addr) (Z : Addr → Prop),
  Room m A → Env0 G.P G.w G.K G.mg G.base A outer s H → H f = some (funO f L cells pm c' ctv) → H c' = some (LamX.CodeO c' L.qual) → NdefX.CellsAt cells L.cap (ws.map some) s.heap H → Vals vs us → vs.length = L.ps.length →
  Rps G.toGx ι (Wz ι Z) H ds vs → Rps G.toGx ι (Wz ι Z) H cap ws → StoR G.toGx ι (Wz ι Z) H st → ZOk G.toGx ι Z H → LamX.Tabs G.T H → PostC G ι Z H (Mini.callN G.prog G.wf m k ((ds ++ cap).map Sl.val) st) Q E →
  codeAny (model G.P G.w) A (.call (.ref f) ⟨us, []⟩) (CR (L2N.CX G.P G.w) outer G.P G.w H s Q E) s
def GloL (G : Gy) (m : Nat) : Prop := ∀ k L, G.lamOk k L → FnL G m k L ∧ ∃ e, G.prog.defs[k]? = some ⟨L.ps.length + L.cap.length, L.ps.length + L.cap.length, .expr e⟩
theorem funO_fn {pins : List (Addr × Obj)} {s : Shared} {f : Addr} {L : LamI} {cells : List (Str × Addr)} {pm : Value} {c' : Addr} {ctv : Value} (I : Inv X pins σ H s) (e : H f = some (funO f L cells pm c' ctv)) : PySem.W.FnAt f s.heap := ⟨_, _, _, _, funO_at (P := X.prog) (w := X.w) I.hok e⟩
abbrev callcG (cf : Mini.CallF) (i : Nat) (gs : EvL) : Ev := fun ρ st => match ρ[i]? with
  | some (.clo k cap) => (gs ρ st).bind fun ds st1 => cf k ((ds ++ cap).map Sl.val) st1
  | _ => .stuck
abbrev cfN (G : Gy) (m : Nat) : Mini.CallF := Mini.callN G.prog G.wf m
/-- the function runs -/
theorem run_clo {pins : List (Addr × Obj)} {s : Shared} {Q : VK} {us : List Value} {vs : List V} {ds cap : List D} {k : Nat} {f : Addr} (hX : XOk G X m) (gl : GloL G m) (hlk : ∀ pins σ H s cells fr ws, Inv X pins σ H s → C.clo cells fr ws → cloAt X.stack s H cells fr ws)
    (hx : Passes (L2N.CX X.prog X.w) X C.EE) (I : Inv X pins σ H s) (r : Vals vs us) (R : Rl G.toGx C ρ st ι σ H) (w : Rps G.toGx ι (Wr C ι ρ σ) H ds vs) (hc : CloR G.toGx C.clo ι (Wr C ι ρ σ) H k cap f)
    (q : PostE G C .strong ρ ι σ H (cfN G m k ((ds ++ cap).map Sl.val) st) Q) : wpAny (model X.prog X.w) X.A (call (.ref f) us) (EP X pins σ Q) X.xe s := by
  obtain ⟨L, cells, pm, c', ctv, ws, h0, h1, h2, h3, h4, h5, h6⟩ := hc
  obtain ⟨F, e, hd⟩ := gl k L h0
  obtain ⟨ca, cn⟩ := hlk pins σ H s cells L.cap ws I h5
  have hwl : ws.length = L.cap.length := by have := ca.len; rwa [List.length_map] at this
  have hl1 := w.length
  have hl2 := h6.length
  have hlen : vs.length = L.ps.length := by
    by_cases hq : vs.length = L.ps.length
    · exact hq
    · exfalso
      cases m with
      | zero => exact q
      | succ m =>
        have q : PostE G C .strong ρ ι σ H (Mini.callN G.prog G.wf (m + 1) k ((ds ++ cap).map Sl.val) st) Q := q
        unfold Mini.callN at q
        rw [hd] at q
        dsimp only at q
        rw [if_neg (by simp; omega)] at q
        exact q
  have qc : PostC G ι (Zf C ρ σ) H (Mini.callN G.prog G.wf m k ((ds ++ cap).map Sl.val) st) Q C.EE := by
    cases e2 : Mini.callN G.prog G.wf m k ((ds ++ cap).map Sl.val) st with
    | ok d st' =>
      have q : PostE G C .strong ρ ι σ H (Mini.callN G.prog G.wf m k ((ds ++ cap).map Sl.val) st) Q := q
      rw [e2] at q
      exact fun v ι' H' S s' t r => q v ι' H' (R.after S s' t) S r
    | raise x st' =>
      have q : PostE G C .strong ρ ι σ H (Mini.callN G.prog G.wf m k ((ds ++ cap).map Sl.val) st) Q := q
      rw [e2] at q
      exact fun cls dx ι' H' S s' t r => q cls dx ι' H' (R.after S s' t) r
    | stuck =>
      have q : PostE G C .strong ρ ι σ H (Mini.callN G.prog G.wf m k ((ds ++ cap).map Sl.val) st) Q := q
      rw [e2] at q
      exact q
  have env : Env0 G.P G.w G.K G.mg G.base X.A X.stack s H := by rw [← hX.p, ← hX.w, ← hX.k, ← hX.mg, ← hX.base]; exact I.env0
  have key := F X.A X.stack s H us vs Q C.EE f c' cells pm ctv ws ds cap st ι (Zf C ρ σ) hX.room env h1 h3 ca r hlen w h6 R.sto R.zok R.snc.tabs qc
  rw [← hX.p, ← hX.w] at key
  exact came hx I key
/-- the name that holds it -/
theorem name_clo {pins : List (Addr × Obj)} {s : Shared} {i : Nat} {f : Addr} {x : Str} {p : Pos} {P : Value → Shared → Prop} (hN : X.N[i]? = some x) (hv : Vis X.env.scope x) (hd : (x == ("__debug__" : Str)) = false) (hcd : (x == ("__classdict__" : Str)) = false) (I : Inv X pins σ H s) (at_ : σ[i]? = some (some (.ref f)))
    (go : ∀ s1, Inv X pins σ H s1 → P (.ref f) s1) : wpAny (model X.prog X.w) X.A (eval (.Name x p) X.env) P X.xe s := by
  have read := (pe_var (X := X) (pos := p) hN hv hd hcd).run pins s σ H (fun v H1 => v = .ref f ∧ H1 = H) I ⟨_, at_, rfl, rfl⟩
  refine wpAny_mono read ?_ fun _ _ z => z
  rintro u s1 ⟨_, _, I1, rel, rfl, rfl⟩
  cases rel
  exact go s1 I1
/-- what a slot must hold for its name to be called -/
theorem callc_slot {i : Nat} {gs : EvL} {Q : VK} (R : Rl G.toGx C ρ st ι σ H) (q : PostE G C .strong ρ ι σ H (callcG (cfN G m) i gs ρ st) Q) :
    ∃ k cap f, σ[i]? = some (some (.ref f)) ∧ CloR G.toGx C.clo ι (Wr C ι ρ σ) H k cap f ∧ PostE G C .strong ρ ι σ H ((gs ρ st).bind fun ds st1 => cfN G m k ((ds ++ cap).map Sl.val) st1) Q := by
  unfold callcG at q
  split at q
  · rename_i k cap es1
    obtain ⟨f, ef, hc⟩ := R.slot i _ es1
    exact ⟨k, cap, f, ef, hc, q⟩
  · exact q.elim
theorem se_callc {i : Nat} {e : Expr} {es : List Expr} {gs : EvL} {x : Str} {p pos : Pos} (hX : XOk G X m) (gl : GloL G m) (hlk : ∀ pins σ H s cells fr ws, Inv X pins σ H s → C.clo cells fr ws → cloAt X.stack s H cells fr ws) (hx : Passes (L2N.CX X.prog X.w) X C.EE)
    (hN : X.N[i]? = some x) (hv : Vis X.env.scope x) (hd : (x == ("__debug__" : Str)) = false) (hcd : (x == ("__classdict__" : Str)) = false) (ns : ∀ e' ∈ e :: es, NoStar e') (ha : PA X (e :: es) (tA G C gs)) :
    PE X (.Call (.Name x p) (e :: es) [] pos) (tE G C .strong (callcG (cfN G m) i gs)) := by
  refine ⟨fun pins s σ H Q I ⟨ρ, st, ι, R, q⟩ => ?_⟩
  obtain ⟨k, cap, f, ef, hc, q⟩ := callc_slot R q
  have fn : ∃ L cells pm c' ctv, H f = some (funO f L cells pm c' ctv) ∧ ¬ Wr C ι ρ σ f := let ⟨L, cells, pm, c', ctv, _, _, h1, h2, _⟩ := hc; ⟨L, cells, pm, c', ctv, h1, h2⟩
  obtain ⟨L, cells, pm, c', ctv, h1, h2⟩ := fn
  refine wpAny_Call_Name_kw (name_clo hN hv hd hcd I ef fun s1 I1 => ?_)
  have args := ha.run pos pins s1 σ H (fun vs H2 => ∃ ds st2 ι2, Rl G.toGx C ρ st2 ι2 σ H2 ∧ StpE ι H ι2 H2 ∧ Rps G.toGx ι2 (Wr C ι2 ρ σ) H2 ds vs ∧ PostE G C .strong ρ ι2 σ H2 (cfN G m k ((ds ++ cap).map Sl.val) st2) Q) I1 ⟨ρ, st, ι, R, by
    cases eg : gs ρ st with
    | ok ds st2 => rw [eg] at q; exact fun vs ι2 H2 R2 S2 w2 => ⟨ds, st2, ι2, R2, S2, w2, PostE.from S2 q⟩
    | raise z st2 => rw [eg] at q; exact q
    | stuck => rw [eg] at q; exact q⟩
  have stars := star_cons (ns e List.mem_cons_self) es X.env
  have plain := plain_star (fun e' h => ns e' (List.mem_cons_of_mem _ h)) pos X.env
  refine PySem.W.callWith_F (first := []) (funO_fn I1 h1) (wpAny_mono args ?_ fun _ _ z => z) stars plain
  rintro us s2 ⟨vs, H2, I2, r, ds, st2, ι2, R2, S2, w2, q2⟩
  exact ⟨funO_fn I2 (S2.stp.at_ h1 h2 funO_ne).1, run_clo hX gl hlk hx I2 r R2 w2 (hc.mono S2.stp) q2⟩
theorem se_callc0 {i : Nat} {x : Str} {p pos : Pos} (hX : XOk G X m) (gl : GloL G m) (hlk : ∀ pins σ H s cells fr ws, Inv X pins σ H s → C.clo cells fr ws → cloAt X.stack s H cells fr ws) (hx : Passes (L2N.CX X.prog X.w) X C.EE)
    (hN : X.N[i]? = some x) (hv : Vis X.env.scope x) (hd : (x == ("__debug__" : Str)) = false) (hcd : (x == ("__classdict__" : Str)) = false) :
    PE X (.Call (.Name x p) [] [] pos) (tE G C .strong (callcG (cfN G m) i fun _ st => .ok [] st)) := by
  refine ⟨fun pins s σ H Q I ⟨ρ, st, ι, R, q⟩ => ?_⟩
  obtain ⟨k, cap, f, ef, hc, q⟩ := callc_slot R q
  refine wpAny_Call_Name_kw (name_clo hN hv hd hcd I ef fun s1 I1 => ?_)
  have fn : ∃ L cells pm c' ctv, H f = some (funO f L cells pm c' ctv) := let ⟨L, cells, pm, c', ctv, _, _, h1, _⟩ := hc; ⟨L, cells, pm, c', ctv, h1⟩
  obtain ⟨L, cells, pm, c', ctv, h1⟩ := fn
  exact PySem.W.callWith_F0 (first := []) (funO_fn I1 h1) (run_clo hX gl hlk hx I1 .nil R .nil hc q)
end
end Snd
end
section
set_option maxRecDepth 100000
set_option maxHeartbeats 4000000
/-! SndM: methods of texts and tuples. -/
namespace Snd
open PySem PySem.Spec PyProof.Rows L2
open Mini (D Sl Xc Res SRes Ex Ar Itr Stm Tgt)
theorem idxG_spec {α : Type} [DecidableEq α] {x : α} : ∀ {l : List α} {k : Nat}, Mini.idxG x l = some k → l[k]? = some x ∧ ∀ j, j < k → l[j]? ≠ some x
  | [], _, h => by cases h
  | y :: ys, k, h => by
    unfold Mini.idxG at h
    by_cases e : y = x
    · rw [if_pos e] at h
      cases h
      exact ⟨by rw [e]; rfl, fun j z => absurd z (Nat.not_lt_zero _)⟩
    · rw [if_neg e] at h
      obtain ⟨m, hm, rfl⟩ := Option.map_eq_some_iff.mp h
      obtain ⟨a, b⟩ := idxG_spec hm
      refine ⟨a, fun j hj => ?_⟩
      cases j with
      | zero => exact fun z => e (Option.some.inj z)
      | succ j => exact b j (by omega)
/-- a sign of a text, at a place -/
theorem at_iff (s : List Nat) (c i : Nat) : StrLaws.At (sS s) (sS [c]) (sS s).length i ↔ s[i]? = some c := by
  have z : (sS s).length = s.length := by show s.toArray.size = _; simp
  have z1 : (sS [c]).length = 1 := rfl
  unfold StrLaws.At Builtin.Str.subAt
  rw [z, z1]
  show i + 1 ≤ s.length ∧ (s.toArray.extract i (i + 1) == [c].toArray) = true ↔ _
  constructor
  · rintro ⟨h1, h2⟩
    have h2 := congrArg Array.toList (eq_of_beq h2)
    simp only [Array.toList_extract, List.extract_eq_take_drop, Nat.add_sub_cancel_left] at h2
    have h3 : (s.drop i)[0]? = some c := by
      have := congrArg (fun l => l[0]?) h2
      simpa using this
    simpa using h3
  · intro h
    have lt := (List.getElem?_eq_some_iff.mp h).1
    refine ⟨lt, beq_iff_eq.mpr ?_⟩
    apply Array.toList_inj.mp
    simp only [Array.toList_extract, List.extract_eq_take_drop, Nat.add_sub_cancel_left]
    rw [List.drop_eq_getElem_cons lt]
    have := (List.getElem?_eq_some_iff.mp h).2
    simp [this]
theorem occ_one {s : List Nat} {c k : Nat} (h : Mini.idxG c s = some k) : ∃ r, Builtin.Str.occurrences (sS s) (sS [c]) 0 (sS s).length 1 = k :: r := by
  obtain ⟨h1, h2⟩ := idxG_spec h
  rcases StrLaws.occ_head (sS s) (sS [c]) 1 (Nat.le_refl _) with ⟨_, n⟩ | ⟨i, r, e, a, b⟩
  · exact absurd ((at_iff s c k).mpr h1) (n k)
  · refine ⟨r, ?_⟩
    have a := (at_iff s c i).mp a
    have : i = k := by
      rcases Nat.lt_trichotomy i k with z | z | z
      · exact absurd a (h2 i z)
      · exact z
      · exact absurd ((at_iff s c k).mpr h1) (b k z)
    rw [← this]
    exact e
section
variable {G : Gy} {C : FCx} {X : Cx} {n : Nat} {ι ι' : List Addr} {W W' : Addr → Prop} {H H' : Hp} {ρ : Mini.Env} {st : Mini.Store} {σ : L2.St} {k : Kd}
theorem six_inv {x y d : D} (h : Mini.sixD x y = some d) : ∃ s c k, x = .str s ∧ y = .str [c] ∧ Mini.idxG c s = some k ∧ d = .int (k : Nat) := by
  unfold Mini.sixD at h
  split at h
  · obtain ⟨m, hm, rfl⟩ := Option.map_eq_some_iff.mp h
    exact ⟨_, _, m, rfl, rfl, hm, rfl⟩
  · cases h
theorem tix_inv {x y d : D} (h : Mini.tixD x y = some d) : ∃ xs z ys k, x = .tup xs ∧ y = .str z ∧ Mini.texts xs = some ys ∧ Mini.idxG z ys = some k ∧ d = .int (k : Nat) := by
  unfold Mini.tixD at h
  split at h
  · obtain ⟨ys, hy, h⟩ := Option.bind_eq_some_iff.mp h
    obtain ⟨m, hm, rfl⟩ := Option.map_eq_some_iff.mp h
    exact ⟨_, _, ys, m, rfl, rfl, hy, hm, rfl⟩
  · cases h
theorem rep_inv {x y z d : D} (h : Mini.repD x y z = some d) : ∃ s c, x = .str s ∧ y = .str [c] ∧ z = .str [] ∧ s.length ≤ Mini.line ∧ d = .str (s.filter fun x => x != c) := by
  unfold Mini.repD at h
  split at h
  · rename_i s c
    by_cases f : Mini.fits s = true
    · rw [if_pos f] at h
      cases h
      exact ⟨s, c, rfl, rfl, rfl, of_decide_eq_true f, rfl⟩
    · rw [if_neg f] at h; cases h
  · cases h
/-- what stands before the point: no call -/
def noCallB : Expr → Bool
  | .Call _ _ _ _ => false
  | _ => true
theorem base_of {o : Expr} (h : noCallB o = true) (name : Str) (env : Env) : attributeBase o name env (eval o env) = eval o env := by
  cases o <;> first | rfl | cases h
/-- o.index(x), o a text -/
theorem se_sindex {o : Expr} {i : Nat} {ga : Ev} {k1 : Kd} {x : Str} {p apos pos : Pos} (hX : XOk G X n) (hb : noCallB o = true) (hl : (apos.endLine == pos.line) = true) (ho : PE X o (tE G C k1 ga)) (hx : PE X (.Name x p) (tVar i)) :
    PE X (.Call (.Attribute o "index" apos) [.Name x p] [] pos) (tE G C .fresh fun ρ st => (ga ρ st).bind fun a st1 => (Mini.lift (Mini.varD ρ i) st1).bind fun b st2 => Mini.lift (Mini.sixD a b) st2) := by
  refine peMono (pe_bm (T := "str") (id := "str.index") PySem.F.plainAttrs_str PySem.F.slot_str_index PySem.F.type_str_index mt_sindex ho (pa_cons (se_var (G := G) (C := C) hx) pa_nil (star_cons noStar_name _ _)) (base_of hb _ _) (by rfl) hl (star_cons noStar_name _ _) rfl)
    fun σ H Q ⟨ρ, st, ι, R, q⟩ => tE_post R q fun a st1 v ι1 H1 e1 R1 S1 w1 q1 => ?_
  cases hv : Mini.varD ρ i with
  | none => rw [hv] at q1; exact q1.elim
  | some b =>
    rw [hv] at q1
    have q1 : PostE G C .fresh ρ ι σ H (Mini.lift (Mini.sixD a b) st1) Q := q1
    cases hd : Mini.sixD a b with
    | none => rw [hd] at q1; exact q1.elim
    | some d =>
      rw [hd] at q1
      obtain ⟨s, c, m, rfl, rfl, hm, rfl⟩ := six_inv hd
      have ev := w1.weak.str.1
      refine ⟨by rw [ev]; rfl, ?_⟩
      refine ⟨ρ, st1, ι1, R1, ?_⟩
      show PostE G C .strong ρ ι1 σ H1 (Mini.lift (Mini.varD ρ i) st1) _
      rw [hv]
      intro u ι2 H2 R2 S2 w2
      obtain ⟨r, hr⟩ := occ_one hm
      exact ⟨sS s, sS [c], m, r, ev, by rw [w2.weak.str.1], hr, q1 _ ι2 H2 R2 (S1.trans S2) intV⟩
theorem sS_eq {a b : List Nat} (h : sS a = sS b) : a = b := by
  have := congrArg (fun z => z.cps.toList) h
  simpa [sS] using this
/-- the place, among the texts as Python has them -/
theorem place_texts {z : List Nat} {ys : List (List Nat)} {j : Nat} (h : Mini.idxG z ys = some j) : (ys.map sS)[j]? = some (sS z) ∧ ∀ m, m < j → (ys.map sS)[m]? ≠ some (sS z) := by
  obtain ⟨h1, h2⟩ := idxG_spec h
  refine ⟨by rw [List.getElem?_map, h1]; rfl, fun m hm w => ?_⟩
  rw [List.getElem?_map] at w
  obtain ⟨y, hy, e⟩ := Option.map_eq_some_iff.mp w
  exact h2 m hm (by rw [hy, sS_eq e])
/-- t[::-1] of a tuple: the very object that comes -/
theorem tuple_back_obj {pins : List (Addr × Obj)} {s : Shared} {a sl : Addr} {u : Tok} {xs : List V} {P : Value → Shared → Prop} (I : Inv X pins σ H s) (hs : s.heap.IsSliceOf sl .none .none (.int (-1) u)) (hx : SqT X.K H a xs)
    (q : ∀ us : List Value, Vals xs.reverse us.reverse → us.length ≤ sizeLine → P (.ref s.heap.objs.size) { s with heap := s.heap.push { cls := .type "tuple", data := .seq us.toArray.toList.reverse.toArray } }) :
    ItemOn (model X.prog X.w) X.A X.xe (.ref a) (.ref sl) P s := by
  obtain ⟨us, r, ⟨⟨c1, dd, dt, sl1⟩, ho, hc, n, hd⟩, hz⟩ := I.tuple hx
  obtain ⟨⟨c2, d2, dt2, sl2⟩, hos, hcs, hds⟩ := hs
  cases hc; cases hd; cases hcs; cases hds
  have lz : us.length ≤ sizeLine := by rw [← r.length]; exact hz
  exact ⟨"tuple", _, PySem.F.slot_tuple_getitem.lookup, ⟨_, ho, rfl⟩, getItem_meets ⟨_, ho, rfl⟩ (by decide) PySem.F.slot_tuple_getitem PySem.F.entry_tuple_getitem (PySem.F.args_tuple_getitem_2 _ _)
    (back_meets a sl us.toArray n u dd d2 sl1 sl2 (by rw [List.size_toArray]; exact lz)) ⟨⟨ho, hos⟩, q us r.reverse lz⟩⟩
/-- t[::-1].index(x) -/
theorem se_tindex {e : Expr} {i j : Nat} {g : Ev} {k1 : Kd} {x : Str} {p p1 p2 p3 p4 apos pos : Pos} (hX : XOk G X n) (hl : (apos.endLine == pos.line) = true) (he : PE X e (tE G C k1 g)) (hx : PE X (.Name x p) (tVar i)) :
    PE X (.Call (.Attribute (.Subscript e (.Slice none none (some (.UnaryOp .USub (.Constant (.int 1) j p1) p2)) p3) p4) "index" apos) [.Name x p] [] pos)
      (tE G C .fresh fun ρ st => (g ρ st).bind fun a st1 => (Mini.lift (Mini.revD a) st1).bind fun b st2 => (Mini.lift (Mini.varD ρ i) st2).bind fun c st3 => Mini.lift (Mini.tixD b c) st3) := by
  constructor
  intro pins s σ H Q I ⟨ρ, st, ι, R, q⟩
  refine wpAny_Call_method_late (base_of rfl _ _) (by rfl) hl rfl (Subscript_ (wpAny_mono (he.run pins s σ H (fun v H1 => ∃ a xs ys z m, v = .ref a ∧ SqT X.K H1 a xs ∧ xs.reverse = ys.map (fun y => V.str (sS y)) ∧ Mini.idxG z ys = some m ∧ σ[i]? = some (some (.str (sS z))) ∧ ∀ p o, H1 p = none → Q (.int (m : Nat)) (upd H1 p o)) I
    (tE_post R q fun a st1 v ι1 H1 e1 R1 S1 w1 q1 => ?_)) ?_ fun _ _ z => z))
  · cases hb : Mini.revD a with
    | none => rw [hb] at q1; exact q1.elim
    | some b =>
      rw [hb] at q1
      have q1 : PostE G C .fresh ρ ι σ H ((Mini.lift (Mini.varD ρ i) st1).bind fun c st3 => Mini.lift (Mini.tixD b c) st3) Q := q1
      cases hv : Mini.varD ρ i with
      | none => rw [hv] at q1; exact q1.elim
      | some c =>
        rw [hv] at q1
        have q1 : PostE G C .fresh ρ ι σ H (Mini.lift (Mini.tixD b c) st1) Q := q1
        cases hd : Mini.tixD b c with
        | none => rw [hd] at q1; exact q1.elim
        | some d =>
          rw [hd] at q1
          obtain ⟨xs, z, ys, m, rfl, rfl, hy, hm, rfl⟩ := tix_inv hd
          rcases rev_inv hb with ⟨ds, rfl, ed⟩ | ⟨ds, rfl, ed⟩
          · cases ed
          · cases ed
            obtain ⟨a0, vs, rfl, hq, hr⟩ := w1.weak.tup
            obtain ⟨tv, _⟩ := hr.rev.strsV hy
            have q1 : PostE G C .fresh ρ ι σ H (.ok (.int (m : Nat)) st1) Q := by
              have q2 : PostE G C .fresh ρ ι σ H (Mini.lift (Mini.tixD (.tup ds.reverse) (.str z)) st1) Q := q1
              rw [hd] at q2
              exact q2
            refine ⟨a0, vs, ys, z, m, rfl, by rw [hX.k]; exact hq.q, by rw [tv, List.map_map]; rfl, hm, ?_, fun p o hp => q1 _ ι1 _ (R1.new hp).1 (S1.trans (R1.new hp).2) intV⟩
            unfold Mini.varD at hv
            cases hs : ρ[i]? with
            | none => rw [hs] at hv; cases hv
            | some sl =>
              rw [hs] at hv
              have hr := R1.slot i sl hs
              cases sl with
              | val d =>
                cases hv
                obtain ⟨v, e, r⟩ := hr
                cases r
                exact e
              | _ => cases hv
  · rintro v s1 ⟨_, H1, I1, rv, a, xs, ys, z, m, rfl, hq, hrev, hm, hσ, fin⟩
    cases rv
    refine key_back I1 fun u s2 I2 hs => ?_
    have on : ItemOn (model X.prog X.w) X.A X.xe (.ref a) (.ref (s2.heap.objs.size - 1)) (fun ov s3 => MethodOn X.prog X.w X.A "index" pos ov (backTo pos (starEach [.Name x p] X.env)) (EP X pins σ Q) X.xe s3) s2 := by
      refine tuple_back_obj I2 hs hq fun us hu hz => ?_
      have lz : xs.reverse.length ≤ sizeLine := by rw [hu.length, List.length_reverse]; exact hz
      have J : Inv X pins σ (upd H1 s2.heap.objs.size (.frz { cls := .type "tuple", data := .seq us.toArray.toList.reverse.toArray } (.tup xs.reverse))) { s2 with heap := s2.heap.push { cls := .type "tuple", data := .seq us.toArray.toList.reverse.toArray } } :=
        I2.laid (t' := s2.toks) (fun _ _ e => Heap.get?_push_of_some _ e) (Nat.le_refl _) ⟨Heap.get?_push_size _ rfl, lz, us.reverse, hu, IsTup.new _ _⟩
      have there := Heap.get?_push_size (o := { cls := .type "tuple", data := .seq us.toArray.toList.reverse.toArray }) s2.heap rfl
      refine ⟨"tuple", "tuple.index", PySem.F.plainAttrs_tuple, PySem.F.slot_tuple_index, PySem.F.type_tuple_index, ⟨_, there, rfl⟩, fun b eb => ?_, Calls.callWith_builtin rfl (Calls.evalArgs_plain ?_)⟩
      · cases eb
        exact ⟨_, there, rfl⟩
      · refine thn ((pa_cons hx pa_nil (star_cons noStar_name _ _)).run pos pins _ σ _ (fun vs H2 => vs = [.str (sS z)] ∧ H2 = upd H1 s2.heap.objs.size (.frz { cls := .type "tuple", data := .seq us.toArray.toList.reverse.toArray } (.tup xs.reverse))) J ⟨_, hσ, rfl, rfl⟩) fun us2 s4 ⟨vs, H2, I4, r4, ev, eH⟩ => ?_
        subst ev; subst eH
        obtain ⟨p1, p2⟩ := place_texts hm
        exact mt_tup_index pins s4 σ _ (.ref s2.heap.objs.size) _ (.ref s2.heap.objs.size) us2 Q I4 rfl r4 ⟨_, ys.map sS, sS z, m, rfl, rfl, by rw [List.map_map]; exact hrev ▸ .inl (.inr ⟨_, upd_same⟩), p1, p2, fin _ _ I2.fresh⟩
    obtain ⟨T, id, l, ty, g⟩ := on
    exact tail_any (ops := [.ref a, .ref (s2.heap.objs.size - 1)]) ty l g (by with_unfolding_all rfl)
end
end Snd
end
section
set_option maxRecDepth 100000
set_option maxHeartbeats 4000000
/-! SndR: text.replace(sign, ''): its reading asks that a token is out; behind which statements that is so. -/
namespace Snd
open PySem PySem.Spec PyProof.Rows L2
open Mini (D Sl Xc Res SRes Ex Ar Itr Stm Tgt)
theorem rep_list (c : Nat) : ∀ l : List Nat, StrLaws.replL [c] [] l = l.filter fun x => x != c
  | [] => StrLaws.replL_nil
  | x :: r => by
    by_cases e : x = c
    · rw [StrLaws.replL_hit (by simp) (by simp [e])]
      show [] ++ StrLaws.replL [c] [] r = _
      rw [List.nil_append, rep_list c r, List.filter_cons_of_neg (by simp [e])]
    · rw [StrLaws.replL_miss (by simp [e]), rep_list c r, List.filter_cons_of_pos (by simp [e])]
theorem rep_txt (s : List Nat) (c : Nat) : Txt.replace (sS s) (sS [c]) (sS []) = sS (s.filter fun x => x != c) := by
  have h := StrLaws.replace_list (x := sS s) (y := sS [c]) (z := sS []) (Nat.le_refl 1)
  have h2 : (Txt.replace (sS s) (sS [c]) (sS [])).cps.toList = s.filter fun x => x != c := by
    rw [h]
    simp only [sS]
    exact rep_list c s
  generalize Txt.replace (sS s) (sS [c]) (sS []) = t at h2
  cases t with
  | mk a =>
    show (⟨a⟩ : Str) = ⟨(s.filter fun x => x != c).toArray⟩
    rw [← h2]
/-! ### a token is out behind it -/
def Up {α : Type} (t : Sem α) : Prop := ∀ (M : Model) (Γ : PySem.Ctx) (Q : α → Pos → Shared → Prop) (E : Value → Pos → Shared → Prop) (p : Pos) (s : Shared), Sem.wp M Γ t Q E p s → Sem.wp M Γ t (fun a p' s' => 1 ≤ s'.toks ∧ Q a p' s') E p s
theorem Up.left {α β : Type} {m : Sem α} {f : α → Sem β} (h : Up m) : Up (m >>= f) := by
  intro M Γ Q E p s z
  rw [Sem.wp_bind'] at z ⊢
  exact Sem.wp_mono M Γ m (fun a p' s' w => Sem.wp_mono M Γ (f a) (fun _ _ _ v => v) (fun _ _ _ v => v.2) _ _ (Sem.wp_toks M Γ 1 (f a) _ _ p' s' w.1 w.2)) (fun _ _ _ v => v) _ _ (h M Γ _ _ _ _ z)
theorem Up.right {α β : Type} {m : Sem α} {f : α → Sem β} (h : ∀ a, Up (f a)) : Up (m >>= f) := by
  intro M Γ Q E p s z
  rw [Sem.wp_bind'] at z ⊢
  exact Sem.wp_mono M Γ m (fun a p' s' w => h a M Γ _ _ _ _ w) (fun _ _ _ v => v) _ _ z
theorem Up.held {α : Type} {m : Sem α} {vs : List Value} (h : Up m) : Up (holding vs m) := by
  intro M Γ Q E p s z
  rw [Sem.wp_holding] at z ⊢
  exact h M Γ _ _ _ _ z
theorem up_int {i : Int} {j : Nat} {p : Pos} {env : Env} : Up (eval (.Constant (.int i) j p) env) := fun M Γ Q E p s z => ⟨Nat.succ_le_succ (Nat.zero_le _), z⟩
theorem up_neg {i : Int} {j : Nat} {p q : Pos} {env : Env} : Up (eval (.UnaryOp .USub (.Constant (.int i) j p) q) env) := by
  rw [arm_eval_UnaryOp]
  exact Up.left up_int
theorem up_slice {i : Int} {j : Nat} {p q r : Pos} {u t : Option Expr} {env : Env} : Up (eval (.Slice (some (.UnaryOp .USub (.Constant (.int i) j p) q)) u t r) env) := by
  rw [arm_eval_Slice]
  exact Up.left (m := valueOrNone (evalOpt (some _) env)) up_neg
theorem up_set {i : Int} {j : Nat} {p q r r2 r3 r4 : Pos} {u t : Option Expr} {v : Expr} {x : Str} {env : Env} : Up (exec (.Assign [.Name x r4] (.Subscript v (.Slice (some (.UnaryOp .USub (.Constant (.int i) j p) q)) u t r) r2) r3) env) := by
  rw [arm_exec_Assign]
  refine Up.right fun _ => ?_
  have no : swapsWithSole [.Name x r4] (.Subscript v (.Slice (some (.UnaryOp .USub (.Constant (.int i) j p) q)) u t r) r2) r3.line env = pure false := rfl
  rw [no]
  have whole : Up (eval (.Subscript v (.Slice (some (.UnaryOp .USub (.Constant (.int i) j p) q)) u t r) r2) env) := by
    rw [arm_eval_Subscript]
    exact Up.right fun _ => Up.left (Up.held up_slice)
  exact (Up.left whole : Up (eval (.Subscript v (.Slice (some (.UnaryOp .USub (.Constant (.int i) j p) q)) u t r) r2) env >>= _))
section
variable {G : Gy} {C : FCx} {X : Cx} {n : Nat} {ι ι' : List Addr} {W W' : Addr → Prop} {H H' : Hp} {ρ : Mini.Env} {st : Mini.Store} {σ : L2.St} {k : Kd}
/-- x.replace(sign, '') -/
theorem set_rep {o : Expr} {c : Nat} {ga : Ev} {k1 : Kd} {j1 j2 : Nat} {c1 c2 apos pos : Pos} (hb : noCallB o = true) (hl : (apos.endLine == pos.line) = true) (ho : PE X o (tE G C k1 ga)) :
    PET X (.Call (.Attribute o "replace" apos) [.Constant (.str (sS [c])) j1 c1, .Constant (.str (sS [])) j2 c2] [] pos) (tE G C .fresh fun ρ st => (ga ρ st).bind fun a st1 => Mini.lift (Mini.repD a (.str [c]) (.str [])) st1) := by
  intro pins s σ H Q h0 I z
  have ne : (sS [c] == sS []) = false := by
    rw [sS_inj]
    rfl
  refine CwR.pet_replC ho ne rfl (base_of hb _ _) hl pins s σ H Q h0 I ?_
  obtain ⟨ρ, st, ι, R, q⟩ := z
  refine tE_post R q fun a st1 v ι1 H1 e1 R1 S1 w1 q1 => ?_
  cases hd : Mini.repD a (.str [c]) (.str []) with
  | none => rw [hd] at q1; exact q1.elim
  | some d =>
    rw [hd] at q1
    obtain ⟨t, b, rfl, eb, _, hz, rfl⟩ := rep_inv hd
    cases eb
    obtain ⟨ev, hc, hs⟩ := w1.weak.str
    have z1 : (sS t).length = t.length := by show t.toArray.size = _; simp
    refine ⟨sS t, ev, ?_, ?_⟩
    · rw [z1]
      show t.length + (t.length + 1) * 0 ≤ 16777216
      have : t.length ≤ 16777216 := hz
      omega
    · rw [rep_txt]
      exact q1 _ ι1 H1 R1 S1 (strV (fun x hx => hc x ((List.mem_filter.mp hx).1)) (Nat.le_trans (List.length_filter_le _ _) hs))
theorem sat_val {e : Expr} {g : Ev} (h : PET X e (tE G C .strong g)) : PET X e (tS1 G C fun ρ st => (g ρ st).bind fun d st1 => .ok (Sl.val d) st1) := fun pins s σ H Q h0 I z => h pins s σ H Q h0 I (val_conv z)
theorem pet_strong {e : Expr} {g : Ev} (h : PET X e (tE G C .fresh g)) : PET X e (tE G C .strong g) := by
  intro pins s σ H Q h0 I ⟨ρ, st, ι, R, q⟩
  refine h pins s σ H Q h0 I ⟨ρ, st, ι, R, ?_⟩
  have q : PostE G C .strong ρ ι σ H (g ρ st) Q := q
  cases e : g ρ st with
  | ok d st1 => rw [e] at q; exact fun v ι1 H1 a b c => q v ι1 H1 a b c.1
  | raise x st1 => rw [e] at q; exact q
  | stuck => rw [e] at q; exact q
theorem sat_cons {e : Expr} {es : List Expr} {ga : EvS1} {gs : EvS} (hn : NoStar e) (ha : PET X e (tS1 G C ga)) (hs : PAT X es (tS G C gs)) :
    PAT X (e :: es) (tS G C fun ρ st => (ga ρ st).bind fun d st1 => (gs ρ st1).bind fun ds st2 => .ok (d :: ds) st2) := fun pos pins s σ H Q h0 I z => pat_cons ha hs (star_cons hn es _) pos pins s σ H Q h0 I (cons_conv z)
theorem sat_nil : PAT X [] (tS G C fun _ st => .ok [] st) := fun pos pins s σ H Q _ I z => (ss_nil (G := G) (C := C)).run pos pins s σ H Q I z
theorem stt_ret {e : Expr} {g : Ev} {pos : Pos} (h : PET X e (tE G C .strong g)) : PST X (.Return (some e) pos) (tSt G C fun ρ st => (g ρ st).toS fun d st1 => .ret d st1) := fun pins s σ H D h0 I z => CwR.pst_ret h pins s σ H D h0 I (ret_conv z)
theorem stt_if {c : Expr} {a b : List Stmt} {gc : Ev} {ga gb : EvSt} {pos : Pos} (hc : PT X c (tT G C (tr gc))) (ha : PSsT X a (tSt G C ga)) (hb : PSsT X b (tSt G C gb)) : PST X (.If c a b pos) (tSt G C (iteS gc ga gb)) := fun pins s σ H D h0 I z => CwR.pst_if hc ha hb pins s σ H D h0 I (if_conv z)
theorem stt_cons {s : Stmt} {rest : List Stmt} {g h : EvSt} (h1 : PST X s (tSt G C g)) (h2 : PSsT X rest (tSt G C h)) : PSsT X (s :: rest) (tSt G C (seqG g h)) := fun pins s σ H D h0 I z => psst_cons h1 h2 pins s σ H D h0 I (seq_conv z)
/-- a statement that lays a token out, and what follows -/
theorem sb_up {s : Stmt} {rest : List Stmt} {g h : EvSt} (up : Up (exec s X.env)) (h1 : PS X s (tSt G C g)) (h2 : PSsT X rest (tSt G C h)) : PSs X (s :: rest) (tSt G C (seqG g h)) := by
  refine pssMono (t := tSeq (tSt G C g) (tSt G C h)) ⟨fun pins s0 σ H D I z => ?_⟩ fun _ _ _ z => seq_conv z
  have one := h1.run pins s0 σ H { D with nx := (tSt G C h) D } I z
  have two : wpAny (model X.prog X.w) X.A (exec s X.env) (fun f s' => 1 ≤ s'.toks ∧ SP X pins { D with nx := (tSt G C h) D } f s') X.xe s0 := fun Γ p hΓ => up _ Γ _ _ p s0 (one Γ p hΓ)
  refine wpAny_execs_cons (wpAny_mono two ?_ fun _ _ z => z)
  rintro f s1 ⟨lo, q⟩
  cases f with
  | next =>
    obtain ⟨σ1, H1, I1, q1⟩ := q
    exact h2 pins s1 σ1 H1 D lo I1 q1
  | _ => exact q
end
end Snd
end
section
set_option maxRecDepth 100000
set_option maxHeartbeats 4000000
/-! Snd20: the reader: does a Mini text tell a Python text? -/
namespace Snd
open PySem PySem.Spec PyProof.Rows L2
open Mini (D Sl Xc Res SRes Ex Ar Itr Stm Tgt Prim)

/-- what a global name stands for -/
inductive GI where
  | fn (f np : Nat)
  | con (n : Nat)
  | exc (x : Nat)
  deriving DecidableEq
/-- the module's names; built-in names that the module leaves alone -/
structure CK where
  gi : List (Str × GI)
  blt : List Str
  lam : Nat → LamI → Bool
  fv : Nat → Bool
/-- a frame's names -/
structure Sc where
  N : List Str
  sc : Scope
  frame : Bool
  qual : Str
  lams : Bool

def kd : Ex → Kd
  | .peek _ => .weak
  | .lst _ => .fresh
  | .bin _ _ _ => .fresh
  | .slice _ _ _ => .fresh
  | .rev _ => .fresh
  | .lc _ _ _ _ => .fresh
  | .meth _ _ _ => .fresh
  | .prim p _ => (match p with
    | .isInt => .strong | .isBool => .strong | .isStr => .strong | .isTuple => .strong | .isList => .strong | .isSeq => .strong
    | _ => .fresh)
  | _ => .strong
def firm (x : Ex) : Bool := decide (kd x ≠ .weak)

def dunder (s : Str) : Bool := !(s == ("__debug__" : Str)) && !(s == ("__classdict__" : Str)) && !(s == ("__name__" : Str))
def visB (sc : Scope) (s : Str) : Bool := match sc.names.lookup s with
  | some .local => true
  | some .cell => true
  | some .free => true
  | _ => false
def nameB (c : Sc) (i : Nat) (s : Str) : Bool := decide (c.N[i]? = some s) && visB c.sc s && dunder s
def glB (c : Sc) (s : Str) : Bool := decide (c.sc.names.lookup s = some .globalImplicit) && dunder s
def bltB (K : CK) (c : Sc) (s : Str) : Bool := glB c s && K.blt.contains s
/-- a target's name -/
def tgtB (c : Sc) (i : Nat) (s : Str) : Bool := decide (c.N[i]? = some s) && (decide (c.sc.names.lookup s = some .local) || (c.frame && decide (c.sc.names.lookup s = some .cell))) && dunder s
def noStarB : Expr → Bool
  | .Starred _ _ => false
  | _ => true
def noCompB : Expr → Bool
  | .ListComp _ _ _ _ => false
  | .SetComp _ _ _ _ => false
  | .DictComp _ _ _ _ _ => false
  | _ => true
def noSetB : Expr → Bool
  | .Set _ _ _ => false
  | _ => true
def plainIxB : Expr → Bool
  | .Slice _ _ _ _ => false
  | _ => true
def conB : Const → D → Bool
  | .none, .non => true
  | .bool a, .bl b => a == b
  | .int i, .int j => i == j
  | .str s, .str t => decide (s = sS t) && t.all (fun c => decide (c < 1114112)) && decide (t.length ≤ sizeLine)
  | _, _ => false
/-- built-in functions of one value -/
def primF : Prim → Option (Str × Bool × String)
  | .len => some ("len", true, "len")
  | .all => some ("all", true, "all")
  | .any => some ("any", true, "any")
  | .sum => some ("sum", true, "sum")
  | .sorted => some ("sorted", true, "sorted")
  | .list => some ("list", false, "list")
  | .tuple => some ("tuple", false, "tuple")
  | .int => some ("int", false, "int")
  | _ => none
def primI : Prim → Option Str
  | .isInt => some "int"
  | .isBool => some "bool"
  | .isStr => some "str"
  | .isTuple => some "tuple"
  | .isList => some "list"
  | _ => none
/-! ### the parts of a text -/
def vCon : Expr → Option Const
  | .Constant k _ _ => some k
  | _ => none
def vName : Expr → Option Str
  | .Name s _ => some s
  | _ => none
def vTup : Expr → Option (List Expr)
  | .Tuple es _ _ => some es
  | _ => none
def vLst : Expr → Option (List Expr)
  | .List es _ => some es
  | _ => none
def vBin : Expr → Option (Expr × Operator × Expr)
  | .BinOp a o b _ => some (a, o, b)
  | _ => none
def vCmp : Expr → Option (Expr × CmpOp × Expr)
  | .Compare a [o] [b] _ => some (a, o, b)
  | _ => none
def vChain : Expr → Option (Expr × CmpOp × Expr × CmpOp × Expr)
  | .Compare a [o, p] [b, d] _ => some (a, o, b, p, d)
  | _ => none
def vBool : Expr → Option (BoolOp × Expr × Expr)
  | .BoolOp o [a, b] _ => some (o, a, b)
  | .BoolOp o (a :: b :: d :: es) p => some (o, a, .BoolOp o (b :: d :: es) p)
  | _ => none
def vUn : Expr → Option (UnaryOp × Expr)
  | .UnaryOp o a _ => some (o, a)
  | _ => none
def vIf : Expr → Option (Expr × Expr × Expr)
  | .IfExp t a b _ => some (t, a, b)
  | _ => none
def vIdx : Expr → Option (Expr × Expr)
  | .Subscript a i _ => some (a, i)
  | _ => none
def vSlice : Expr → Option (Option Expr × Option Expr)
  | .Slice l h none _ => some (l, h)
  | _ => none
def vBack : Expr → Option Unit
  | .Slice none none (some (.UnaryOp .USub (.Constant (.int 1) _ _) _)) _ => some ()
  | _ => none
def vCall : Expr → Option (Str × List Expr)
  | .Call (.Name s _) es [] _ => some (s, es)
  | _ => none
/-- o.m(e) -/
def vMeth : Expr → Option (Expr × Str × Expr)
  | .Call (.Attribute o m ap) [e] [] pos => if ap.endLine == pos.line then some (o, m, e) else none
  | _ => none
/-- x.replace('..', '..') -/
def vRep : Expr → Option (Str × Str × Str)
  | .Call (.Attribute (.Name x _) m ap) [.Constant (.str y) _ _, .Constant (.str z) _ _] [] pos => if (ap.endLine == pos.line) && decide (m = "replace") then some (x, y, z) else none
  | _ => none
def vLc : Expr → Option (Expr × Expr × Expr × List Expr × Scope)
  | .ListComp e [⟨tg, it, ifs, 0⟩] scope _ => some (e, tg, it, ifs, scope)
  | _ => none
section
variable {e a b d t : Expr} {es : List Expr}
theorem vCon_eq {k : Const} (h : vCon e = some k) : ∃ j p, e = .Constant k j p := by cases e <;> first | (cases h; exact ⟨_, _, rfl⟩) | cases h
theorem vName_eq {s : Str} (h : vName e = some s) : ∃ p, e = .Name s p := by cases e <;> first | (cases h; exact ⟨_, rfl⟩) | cases h
theorem vTup_eq (h : vTup e = some es) : ∃ j p, e = .Tuple es j p := by cases e <;> first | (cases h; exact ⟨_, _, rfl⟩) | cases h
theorem vLst_eq (h : vLst e = some es) : ∃ p, e = .List es p := by cases e <;> first | (cases h; exact ⟨_, rfl⟩) | cases h
theorem vBin_eq {o : Operator} (h : vBin e = some (a, o, b)) : ∃ p, e = .BinOp a o b p := by cases e <;> first | (cases h; exact ⟨_, rfl⟩) | cases h
theorem vCmp_eq {o : CmpOp} (h : vCmp e = some (a, o, b)) : ∃ p, e = .Compare a [o] [b] p := by
  unfold vCmp at h
  split at h
  · cases h; exact ⟨_, rfl⟩
  · cases h
theorem vChain_eq {o p : CmpOp} (h : vChain e = some (a, o, b, p, d)) : ∃ q, e = .Compare a [o, p] [b, d] q := by
  unfold vChain at h
  split at h
  · cases h; exact ⟨_, rfl⟩
  · cases h
theorem vBool_eq {o : BoolOp} (h : vBool e = some (o, a, b)) : (∃ p, e = .BoolOp o [a, b] p) ∨ ∃ b' d es p, e = .BoolOp o (a :: b' :: d :: es) p ∧ b = .BoolOp o (b' :: d :: es) p := by
  unfold vBool at h
  split at h
  · cases h; exact .inl ⟨_, rfl⟩
  · cases h; exact .inr ⟨_, _, _, _, rfl, rfl⟩
  · cases h
theorem vUn_eq {o : UnaryOp} (h : vUn e = some (o, a)) : ∃ p, e = .UnaryOp o a p := by cases e <;> first | (cases h; exact ⟨_, rfl⟩) | cases h
theorem vIf_eq (h : vIf e = some (t, a, b)) : ∃ p, e = .IfExp t a b p := by cases e <;> first | (cases h; exact ⟨_, rfl⟩) | cases h
theorem vIdx_eq (h : vIdx e = some (a, b)) : ∃ p, e = .Subscript a b p := by cases e <;> first | (cases h; exact ⟨_, rfl⟩) | cases h
theorem vSlice_eq {l u : Option Expr} (h : vSlice e = some (l, u)) : ∃ p, e = .Slice l u none p := by
  unfold vSlice at h
  split at h
  · cases h; exact ⟨_, rfl⟩
  · cases h
theorem vBack_eq {x : Unit} (h : vBack e = some x) : ∃ j p1 p2 p3, e = .Slice none none (some (.UnaryOp .USub (.Constant (.int 1) j p1) p2)) p3 := by
  unfold vBack at h
  split at h
  · exact ⟨_, _, _, _, rfl⟩
  · cases h
theorem vCall_eq {s : Str} (h : vCall e = some (s, es)) : ∃ p q, e = .Call (.Name s p) es [] q := by
  unfold vCall at h
  split at h
  · cases h; exact ⟨_, _, rfl⟩
  · cases h
theorem vMeth_eq {m : Str} (h : vMeth e = some (a, m, b)) : ∃ p q, e = .Call (.Attribute a m p) [b] [] q ∧ (p.endLine == q.line) = true := by
  unfold vMeth at h
  split at h
  · split at h
    · cases h; exact ⟨_, _, rfl, by assumption⟩
    · cases h
  · cases h
theorem vRep_eq {x y z : Str} (h : vRep e = some (x, y, z)) : ∃ p1 p2 j1 c1 j2 c2 p3, e = .Call (.Attribute (.Name x p1) "replace" p2) [.Constant (.str y) j1 c1, .Constant (.str z) j2 c2] [] p3 ∧ (p2.endLine == p3.line) = true := by
  unfold vRep at h
  split at h
  · split at h
    · rename_i w
      simp only [Bool.and_eq_true, decide_eq_true_eq] at w
      obtain ⟨w1, rfl⟩ := w
      cases h
      exact ⟨_, _, _, _, _, _, _, rfl, w1⟩
    · cases h
  · cases h
theorem vLc_eq {tg it : Expr} {scope : Scope} (h : vLc e = some (a, tg, it, es, scope)) : ∃ p, e = .ListComp a [⟨tg, it, es, 0⟩] scope p := by
  unfold vLc at h
  split at h
  · cases h; exact ⟨_, rfl⟩
  · cases h
end
mutual
def mG (c : Sc) : Tgt → Expr → Bool
  | .name i, e => (match vName e with
    | some s => tgtB c i s
    | none => false)
  | .tup ts, e => (match vTup e with
    | some es => mGs c ts es
    | none => false)
def mGs (c : Sc) : List Tgt → List Expr → Bool
  | [], [] => true
  | t :: ts, e :: es => mG c t e && noStarB e && mGs c ts es
  | _, _ => false
end
/-- a target's names with their places -/
def ownT (N : List Str) (t : Tgt) : List (Str × Nat) := (Mini.slotsT t).map fun i => (N.getD i "", i)
def andO {α : Type} (o : Option α) (f : α → Bool) : Bool := match o with
  | some x => f x
  | none => false
theorem andO_eq {α : Type} {o : Option α} {f : α → Bool} (h : andO o f = true) : ∃ x, o = some x ∧ f x = true := by
  cases o with
  | none => cases h
  | some x => exact ⟨x, rfl, h⟩
def one {α : Type} : List α → Option α
  | [x] => some x
  | _ => none
def two' {α : Type} : List α → Option (α × α)
  | [x, y] => some (x, y)
  | _ => none
theorem one_eq {α : Type} {l : List α} {x : α} (h : one l = some x) : l = [x] := by
  unfold one at h
  split at h
  · cases h; rfl
  · cases h
theorem two_eq {α : Type} {l : List α} {x y : α} (h : two' l = some (x, y)) : l = [x, y] := by
  unfold two' at h
  split at h
  · cases h; rfl
  · cases h
def vLam : Expr → Option (Arguments × Expr × Scope)
  | .Lambda a b s _ => some (a, b, s)
  | _ => none
theorem vLam_eq {e b : Expr} {a : Arguments} {sc : Scope} (h : vLam e = some (a, b, sc)) : ∃ p, e = .Lambda a b sc p := by cases e <;> first | (cases h; exact ⟨_, rfl⟩) | cases h
/-- a function's text, as it stands in that frame -/
def lamOf (c : Sc) (js : List Nat) (a : Arguments) (b : Expr) (s : Scope) : LamI := ⟨c.qual ++ "<lambda>", a, b, s, a.args.map (·.arg), js.map fun j => c.N.getD j ""⟩
def lamB (K : CK) (c : Sc) (k : Nat) (js : List Nat) (a : Arguments) (b : Expr) (s : Scope) : Bool := c.frame && c.lams && K.lam k (lamOf c js a b s) && decide (js.map (fun j => c.N[j]?) = (lamOf c js a b s).cap.map some) && a.defaults.isEmpty && a.kw_defaults.isEmpty &&
  s.names.all (fun y => !decide (y.2 = .free) || decide (c.sc.names.lookup y.1 = some .cell) || decide (c.sc.names.lookup y.1 = some .free)) && (lamOf c js a b s).cap.all fun y => decide ((y, NameKind.free) ∈ s.names)
mutual
def mE (K : CK) : Ex → Sc → Expr → Bool
  | .con d, _, e => andO (vCon e) fun k => conB k d
  | .var i, c, e => andO (vName e) fun s => nameB c i s
  | .peek i, c, e => andO (vName e) fun s => nameB c i s
  | .glob n, c, e => andO (vName e) fun s => glB c s && decide (K.gi.lookup s = some (.con n))
  | .fnv f, c, e => andO (vName e) fun s => glB c s && K.fv f && (match K.gi.lookup s with
    | some (.fn g _) => decide (g = f)
    | _ => false)
  | .tup xs, c, e => andO (vTup e) fun es => mEs K xs c es
  | .lst xs, c, e => andO (vLst e) fun es => mEs K xs c es
  | .cellL xs, c, e => andO (vLst e) fun es => mEs K xs c es
  | .bin o a b, c, e => andO (vBin e) fun q => decide (q.2.1 = toBin o) && mE K a c q.1 && mE K b c q.2.2
  | .cmp o a b, c, e => andO (vCmp e) fun q => decide (q.2.1 = toCmp o) && noSetB q.2.2 && mE K a c q.1 && mE K b c q.2.2
  | .chain o p a b d, c, e => andO (vChain e) fun q => decide (q.2.1 = toCmp o) && decide (q.2.2.2.1 = toCmp p) && noSetB q.2.2.2.2 && mE K a c q.1 && mE K b c q.2.2.1 && mE K d c q.2.2.2.2
  | .and a b, c, e => andO (vBool e) fun q => decide (q.1 = .And) && mE K a c q.2.1 && mE K b c q.2.2 && firm b
  | .or a b, c, e => andO (vBool e) fun q => decide (q.1 = .Or) && mE K a c q.2.1 && mE K b c q.2.2 && firm b
  | .not a, c, e => andO (vUn e) fun q => decide (q.1 = .Not) && mE K a c q.2
  | .neg a, c, e => andO (vUn e) fun q => decide (q.1 = .USub) && mE K a c q.2
  | .ite t a b, c, e => andO (vIf e) fun q => mE K t c q.1 && mE K a c q.2.1 && mE K b c q.2.2 && firm a && firm b
  | .idx a i, c, e => andO (vIdx e) fun q => mE K a c q.1 && mE K i c q.2 && plainIxB q.2
  | .slice a lo hi, c, e => andO (vIdx e) fun q => mE K a c q.1 && andO (vSlice q.2) fun r => mI K lo c r.1 && mI K hi c r.2
  | .rev a, c, e => andO (vIdx e) fun q => mE K a c q.1 && (vBack q.2).isSome
  | .call f as, c, e => andO (vCall e) fun q => glB c q.1 && decide (K.gi.lookup q.1 = some (.fn f as.length)) && mAs K as c q.2
  | .prim p a, c, e => andO (vCall e) fun q => bltB K c q.1 && (match p with
    | .listRange => decide (q.1 = "list") && andO (one q.2) fun x => andO (vCall x) fun r => decide (r.1 = "range") && bltB K c r.1 && andO (one r.2) fun y => noStarB y && mE K a c y
    | .isSeq => decide (q.1 = "isinstance") && andO (two' q.2) fun x => noStarB x.1 && mE K a c x.1 && andO (vTup x.2) fun es => andO (two' es) fun z => decide (vName z.1 = some "tuple") && decide (vName z.2 = some "list") && bltB K c "tuple" && bltB K c "list"
    | p => (match primF p with
      | some r => decide (q.1 = r.1) && andO (one q.2) fun y => noStarB y && mE K a c y
      | none => (match primI p with
        | some T => decide (q.1 = "isinstance") && andO (two' q.2) fun x => noStarB x.1 && mE K a c x.1 && decide (vName x.2 = some T) && bltB K c T
        | none => false)))
  | .lc elt t it ifs, c, e => andO (vLc e) fun q => blkC c.N c.sc q.2.2.2.2 (ownT c.N t) && noSetB q.2.2.1 && mIt K it c q.2.1 q.2.2.1 && mG ⟨c.N, relS q.2.2.2.2 c.sc, false, c.qual, false⟩ t q.2.1 &&
      mE K elt ⟨c.N, relS q.2.2.2.2 c.sc, false, c.qual, false⟩ q.1 && firm elt && mF K ifs ⟨c.N, relS q.2.2.2.2 c.sc, false, c.qual, false⟩ q.2.2.2.1
  | .callc i as, c, e => andO (vCall e) fun q => nameB c i q.1 && c.frame && mEs K as c q.2
  | .callv i as, c, e => andO (vCall e) fun q => nameB c i q.1 && !as.isEmpty && mAs K as c q.2
  | .meth m o as, c, e => andO (vMeth e) fun q => decide (q.2.1 = "index") && (match m, as with
    | .sindex, [.var i] => noCallB q.1 && mE K o c q.1 && andO (vName q.2.2) fun s => nameB c i s
    | .tindex, [.var i] => (match o with
      | .rev (.var j) => andO (vIdx q.1) fun r => (vBack r.2).isSome && (andO (vName r.1) fun t => nameB c j t) && andO (vName q.2.2) fun s => nameB c i s
      | _ => false)
    | _, _ => false)
  | _, _, _ => false
def mEs (K : CK) : List Ex → Sc → List Expr → Bool
  | [], _, [] => true
  | x :: xs, c, e :: es => mE K x c e && firm x && noStarB e && mEs K xs c es
  | _, _, _ => false
def mAs (K : CK) : List Ar → Sc → List Expr → Bool
  | [], _, [] => true
  | x :: xs, c, e :: es => mA K x c e && noStarB e && mAs K xs c es
  | _, _, _ => false
def mA (K : CK) : Ar → Sc → Expr → Bool
  | .e a, c, e => mE K a c e && firm a
  | .slot i, c, e => andO (vName e) fun s => nameB c i s && c.frame
  | .lam k js, c, e => andO (vLam e) fun q => lamB K c k js q.1 q.2.1 q.2.2
def mI (K : CK) : Option Ex → Sc → Option Expr → Bool
  | none, _, none => true
  | some x, c, some e => mE K x c e
  | _, _, _ => false
def mF (K : CK) : Option Ex → Sc → List Expr → Bool
  | none, _, es => es.isEmpty
  | some x, c, es => andO (one es) fun e => mE K x c e
/-- what is walked, under that target -/
def mIt (K : CK) : Itr → Sc → Expr → Expr → Bool
  | .e a, c, _, e => mE K a c e && firm a
  | .range none b, c, _, e => andO (vCall e) fun q => decide (q.1 = "range") && bltB K c q.1 && andO (one q.2) fun y => noStarB y && mE K b c y
  | .range (some a) b, c, _, e => andO (vCall e) fun q => decide (q.1 = "range") && bltB K c q.1 && andO (two' q.2) fun y => noStarB y.1 && noStarB y.2 && mE K a c y.1 && mE K b c y.2
  | .enum a, c, t, e => (vTup t).isSome && andO (vCall e) fun q => decide (q.1 = "enumerate") && bltB K c q.1 && andO (one q.2) fun y => noStarB y && mE K a c y && firm a
  | .zip a b, c, t, e => (vTup t).isSome && andO (vCall e) fun q => decide (q.1 = "zip") && bltB K c q.1 && andO (two' q.2) fun y => noStarB y.1 && noStarB y.2 && mE K a c y.1 && firm a && mE K b c y.2 && firm b
end
end Snd
end
section
set_option maxRecDepth 100000
set_option maxHeartbeats 4000000
/-! Snd21: the reader is right, of expressions. -/
namespace Snd
open PySem PySem.Spec PyProof.Rows L2
open Mini (D Sl Xc Res SRes Ex Ar Itr Stm Tgt Prim)

structure Glo (G : Gy) (K : CK) (m : Nat) : Prop where
  fn : ∀ s f np, K.gi.lookup s = some (.fn f np) → ∃ fd ps, G.mg s = some (.ref (G.fa f)) ∧ PySem.W.keepIn G.K (.ref (G.fa f)) = true ∧ Binds G.K fd ps [] ∧
    FnC G.P G.w G.K G.mg G.base (L2N.CX G.P G.w) m (G.fa f) fd ps (SpC G (Mini.callN G.prog G.wf m f) np)
  con : ∀ s n, K.gi.lookup s = some (.con n) → ∃ u v d, G.mg s = some u ∧ RelV v u ∧ G.prog.globs[n]? = some d ∧ ∀ ι W H, Rp G.toGx ι W H d v
  blt : ∀ s, K.blt.contains s = true → G.mg s = none
  lam : GloL G m
  lok : ∀ k L, K.lam k L = true → G.lamOk k L
  fnI : ∀ s k np, K.gi.lookup s = some (.fn k np) → K.fv k = true → G.fnp s k np
  fnE : ∀ s k np, G.fnp s k np → K.gi.lookup s = some (.fn k np) ∧ ∃ d, G.prog.defs[k]? = some d ∧ d.np = np
structure AmbE (G : Gy) (c : Sc) (X : Cx) (C : FCx) (m : Nat) : Prop where
  x : XOk G X m
  N : X.N = c.N
  nd : c.N.Nodup
  sc : X.env.scope = c.sc
  fn : c.frame = true → ∀ x, X.fn x = true
  ps : Passes (L2N.CX X.prog X.w) X C.EE
  clo : c.frame = true → C.cells = X.env.cells ∧ C.N = X.N ∧ C.names = X.env.scope.names ∧ ∀ pins σ H s cells fr ws, Inv X pins σ H s → C.clo cells fr ws → cloAt X.stack s H cells fr ws
  tab : c.lams = true → X.env.qual = c.qual ∧ ∃ cc tp, LamX.TabB X.base X.mg cc tp ∧ X.env.code = .ref cc ∧ (tp, c.qual ++ "<lambda>") ∈ G.T ∧ ∀ p ∈ G.T, p.1 = tp → p.2 = c.qual ++ "<lambda>"

section
variable {G : Gy} {K : CK} {c : Sc} {X : Cx} {C : FCx} {m : Nat}
theorem dunder_eq {s : Str} (h : dunder s = true) : (s == ("__debug__" : Str)) = false ∧ (s == ("__classdict__" : Str)) = false ∧ s ≠ "__name__" := by
  simp only [dunder, Bool.and_eq_true, Bool.not_eq_true'] at h
  exact ⟨h.1.1, h.1.2, fun z => by rw [z] at h; simp at h⟩
theorem nameB_eq (A : AmbE G c X C m) {i : Nat} {s : Str} (h : nameB c i s = true) : X.N[i]? = some s ∧ Vis X.env.scope s ∧ (s == ("__debug__" : Str)) = false ∧ (s == ("__classdict__" : Str)) = false := by
  simp only [nameB, Bool.and_eq_true, decide_eq_true_eq] at h
  rcases h with ⟨⟨h1, h2⟩, h3⟩
  obtain ⟨h4, h5, _⟩ := dunder_eq h3
  refine ⟨by rw [A.N]; exact h1, ?_, h4, h5⟩
  rw [A.sc]
  unfold visB at h2
  unfold Vis
  split at h2
  · exact .inl (by assumption)
  · exact .inr (.inl (by assumption))
  · exact .inr (.inr (by assumption))
  · cases h2
theorem glB_eq (A : AmbE G c X C m) {s : Str} (h : glB c s = true) : Gl X s ∧ (s == ("__debug__" : Str)) = false ∧ s ≠ "__name__" := by
  simp only [glB, Bool.and_eq_true, decide_eq_true_eq] at h
  obtain ⟨h4, _, h5⟩ := dunder_eq h.2
  refine ⟨?_, h4, h5⟩
  show X.env.scope.names.lookup s = _
  rw [A.sc]
  exact h.1
theorem bltB_eq (A : AmbE G c X C m) (g : Glo G K m) {s : Str} (h : bltB K c s = true) : Gl X s ∧ X.mg s = none ∧ (s == ("__debug__" : Str)) = false ∧ s ≠ "__name__" := by
  simp only [bltB, Bool.and_eq_true] at h
  obtain ⟨h1, h2, h3⟩ := glB_eq A h.1
  exact ⟨h1, by rw [A.x.mg]; exact g.blt s h.2, h2, h3⟩
theorem noStar_of {e : Expr} (h : noStarB e = true) : NoStar e := by
  intro x p z
  subst z
  cases h
theorem noSet_of {e : Expr} (h : noSetB e = true) (o : CmpOp) : behindInMarks o e = false := by
  cases e <;> first | rfl | cases h
theorem noFold_of {e : Expr} (h : noSetB e = true) (env : Env) (x : Value) : foldedSetIterable e env x = pure x := by
  cases e <;> first | rfl | cases h
theorem plainIx_of {e : Expr} (h : plainIxB e = true) : PlainIx e := by
  cases e <;> first | (intro o i; rfl) | cases h
theorem firm_of {x : Ex} {e : Expr} {g : Ev} (h : firm x = true) (p : PE X e (tE G C (kd x) g)) : PE X e (tE G C .strong g) := by
  have h : kd x ≠ .weak := of_decide_eq_true h
  cases hk : kd x with
  | weak => exact absurd hk h
  | strong => rw [hk] at p; exact p
  | fresh => rw [hk] at p; exact Snd.PE.toStrong p
theorem conB_rp {k : Const} {d : D} {j : Nat} {p : Pos} (h : conB k d = true) : PE X (.Constant k j p) (tE G C .strong fun _ st => .ok d st) := by
  cases k <;> cases d <;> first | cases h | skip
  · exact se_con pe_non fun ι W H => .non
  · rename_i a b
    cases (show a = b from eq_of_beq h)
    exact se_con pe_bl fun ι W H => .bl a
  · rename_i a b
    cases (show a = b from eq_of_beq h)
    exact se_con pe_int fun ι W H => .int a
  · rename_i a b
    have h : (decide (a = sS b) && b.all (fun c => decide (c < 1114112)) && decide (b.length ≤ sizeLine)) = true := h
    simp only [and_tt, decide_eq_true_eq, List.all_eq_true] at h
    obtain ⟨⟨rfl, h2⟩, h3⟩ := h
    exact se_con pe_str fun ι W H => .str b h2 h3
/-- what is told of an expression -/
def So (G : Gy) (cf : Mini.CallF) (X : Cx) (C : FCx) (x : Ex) (e : Expr) : Prop := PE X e (tE G C (kd x) (Mini.evE G.prog.globs cf x)) ∧ PT X e (tT G C (tr (Mini.evE G.prog.globs cf x)))
theorem So.plain {cf : Mini.CallF} {x : Ex} {e : Expr} (h : PE X e (tE G C (kd x) (Mini.evE G.prog.globs cf x))) (he : ∀ whole, isTrue e X.env whole = (do let v ← whole; standAt e.pos; holding [v] (truthy v))) : So G cf X C x e := ⟨h, st_of h he⟩
theorem PT.pwB {o : BoolOp} {es : List Expr} {p : Pos} {t : TT} (h : PT X (.BoolOp o es p) t) : PW X (.BoolOp o es p) t := ⟨fun wh pins s σ H Q I q => h.run pins s σ H Q I q⟩
theorem So.and {cf : Mini.CallF} {a b : Ex} {ea eb e : Expr} (ha : So G cf X C a ea) (hb : So G cf X C b eb) (hv : vBool e = some (.And, ea, eb)) (hf : firm b = true) : So G cf X C (.and a b) e := by
  rcases vBool_eq hv with ⟨p, rfl⟩ | ⟨b', d, es, p, rfl, rfl⟩
  · exact ⟨se_and ha.1 (pe_one (firm_of hf hb.1)), (sw_and ha.2 (pw_and1 hb.2)).pt⟩
  · exact ⟨se_and ha.1 (firm_of hf hb.1), (sw_and ha.2 (Snd.PT.pwB hb.2)).pt⟩
theorem So.or {cf : Mini.CallF} {a b : Ex} {ea eb e : Expr} (ha : So G cf X C a ea) (hb : So G cf X C b eb) (hv : vBool e = some (.Or, ea, eb)) (hf : firm b = true) : So G cf X C (.or a b) e := by
  rcases vBool_eq hv with ⟨p, rfl⟩ | ⟨b', d, es, p, rfl, rfl⟩
  · exact ⟨se_or ha.1 (pe_one (firm_of hf hb.1)), (sw_or ha.2 (pw_or1 hb.2)).pt⟩
  · exact ⟨se_or ha.1 (firm_of hf hb.1), (sw_or ha.2 (Snd.PT.pwB hb.2)).pt⟩
/-! ### targets -/
theorem tgtB_eq (A : AmbE G c X C m) {i : Nat} {s : Str} (h : tgtB c i s = true) : X.N[i]? = some s ∧ L2.Loc X.env.scope s ∧ (X.fn s = true ∨ X.env.scope.names.lookup s = some .local) := by
  simp only [tgtB, Bool.and_eq_true, Bool.or_eq_true, decide_eq_true_eq] at h
  rcases h with ⟨⟨h1, h2⟩, h3⟩
  refine ⟨by rw [A.N]; exact h1, ?_⟩
  unfold L2.Loc
  rw [A.sc]
  rcases h2 with h2 | ⟨h2, h4⟩
  · exact ⟨.inl h2, .inr h2⟩
  · exact ⟨.inr h4, .inl (A.fn h2 s)⟩
mutual
theorem soG (A : AmbE G c X C m) : ∀ (t : Tgt) (e : Expr), mG c t e = true → PG X e (tG G C t)
  | .name i, e, h => by
    unfold mG at h
    split at h
    · rename_i s hs
      obtain ⟨p, rfl⟩ := vName_eq hs
      obtain ⟨h1, h2, h3⟩ := tgtB_eq A h
      exact sg_name (by rw [A.N]; exact A.nd) h1 h2 h3
    · cases h
  | .tup ts, e, h => by
    unfold mG at h
    split at h
    · rename_i es hs
      obtain ⟨j, p, rfl⟩ := vTup_eq hs
      obtain ⟨h1, h2, h3⟩ := soGs A ts es h
      exact sg_tup A.x h2 h3 h1
    · cases h
theorem soGs (A : AmbE G c X C m) : ∀ (ts : List Tgt) (es : List Expr), mGs c ts es = true → PGs X es (tGs G C ts) ∧ (∀ e ∈ es, NoStar e) ∧ es.length = ts.length
  | [], [], _ => ⟨sgs_nil, (by intro e z; cases z), rfl⟩
  | [], e :: es, h => by unfold mGs at h; cases h
  | t :: ts, [], h => by unfold mGs at h; cases h
  | t :: ts, e :: es, h => by
    unfold mGs at h
    simp only [and_tt] at h
    rcases h with ⟨⟨h1, h2⟩, h3⟩
    obtain ⟨h4, h5, h6⟩ := soGs A ts es h3
    refine ⟨sgs_cons (noStar_of h2) (soG A t e h1) h4, fun e' he => ?_, by simp [h6]⟩
    rcases List.mem_cons.1 he with rfl | he
    · exact noStar_of h2
    · exact h5 e' he
end
/-! ### built-in functions of one value -/
theorem prim_fn (hX : XOk G X m) {p : Prim} {s : Str} {b : Bool} {id : String} (h : primF p = some (s, b, id)) : (b = true ∧ bootBuiltins s = some (.builtin id) ∧ PrS G X .fresh (.builtin id) (Mini.primD p)) ∨ (b = false ∧ bootBuiltins s = some (.type id) ∧ PrS G X .fresh (.type id) (Mini.primD p)) := by
  cases p <;> cases h
  · exact .inl ⟨rfl, by decide +kernel, prs_len hX⟩
  · exact .inl ⟨rfl, by decide +kernel, prs_all hX⟩
  · exact .inl ⟨rfl, by decide +kernel, prs_any hX⟩
  · exact .inl ⟨rfl, by decide +kernel, prs_sorted hX⟩
  · exact .inr ⟨rfl, by decide +kernel, prs_list hX⟩
  · exact .inr ⟨rfl, by decide +kernel, prs_tuple hX⟩
  · exact .inr ⟨rfl, by decide +kernel, prs_int⟩
  · exact .inl ⟨rfl, by decide +kernel, prs_sum hX⟩
theorem kitB_tab : ∀ x ∈ ["NoneType", "bool", "int", "str", "tuple", "list"], ∀ y ∈ ["int", "bool", "str", "tuple", "list"], kitB x y = some (decide (x = y) || (decide (x = "bool") && decide (y = "int"))) := by decide +kernel
theorem isi_tab {U : String} (hU : U ∈ ["int", "bool", "str", "tuple", "list"]) {x : D} {t : String} (h : tyD x = some t) : isiD U x = some (.bl (decide (t = U) || (decide (t = "bool") && decide (U = "int")))) := by
  have ht : t ∈ ["NoneType", "bool", "int", "str", "tuple", "list"] := by cases x <;> cases h <;> decide
  unfold isiD
  rw [h]
  show (kitB t U).map D.bl = _
  rw [kitB_tab t ht U hU]
  rfl
theorem prim_isi {p : Prim} {T : Str} (h : primI p = some T) : ∃ U : String, bootBuiltins T = some (.type U) ∧ (∀ a, kd (.prim p a) = .strong) ∧ ∀ x d, Mini.primD p x = some d → isiD U x = some d := by
  cases p <;> cases h
  · refine ⟨"int", by decide +kernel, fun _ => rfl, fun x d q => ?_⟩
    have key : ∀ t : String, tyD x = some t → isiD "int" x = some (.bl (decide (t = "int") || (decide (t = "bool") && decide ("int" = "int")))) := fun t h => isi_tab (by decide) h
    cases x <;> first | (cases q; done) | (rw [key _ rfl, ← q]; simp [Mini.primD])
  · refine ⟨"bool", by decide +kernel, fun _ => rfl, fun x d q => ?_⟩
    have key : ∀ t : String, tyD x = some t → isiD "bool" x = some (.bl (decide (t = "bool") || (decide (t = "bool") && decide ("bool" = "int")))) := fun t h => isi_tab (by decide) h
    cases x <;> first | (cases q; done) | (rw [key _ rfl, ← q]; simp [Mini.primD])
  · refine ⟨"str", by decide +kernel, fun _ => rfl, fun x d q => ?_⟩
    have key : ∀ t : String, tyD x = some t → isiD "str" x = some (.bl (decide (t = "str") || (decide (t = "bool") && decide ("str" = "int")))) := fun t h => isi_tab (by decide) h
    cases x <;> first | (cases q; done) | (rw [key _ rfl, ← q]; simp [Mini.primD])
  · refine ⟨"tuple", by decide +kernel, fun _ => rfl, fun x d q => ?_⟩
    have key : ∀ t : String, tyD x = some t → isiD "tuple" x = some (.bl (decide (t = "tuple") || (decide (t = "bool") && decide ("tuple" = "int")))) := fun t h => isi_tab (by decide) h
    cases x <;> first | (cases q; done) | (rw [key _ rfl, ← q]; simp [Mini.primD])
  · refine ⟨"list", by decide +kernel, fun _ => rfl, fun x d q => ?_⟩
    have key : ∀ t : String, tyD x = some t → isiD "list" x = some (.bl (decide (t = "list") || (decide (t = "bool") && decide ("list" = "int")))) := fun t h => isi_tab (by decide) h
    cases x <;> first | (cases q; done) | (rw [key _ rfl, ← q]; simp [Mini.primD])
theorem prim_seq {x d : D} (q : Mini.primD .isSeq x = some d) : isi2D "tuple" "list" x = some d := by
  have key : ∀ t : String, tyD x = some t → isi2D "tuple" "list" x = some (.bl (decide (t = "tuple") || decide (t = "list"))) := fun t h => by
    have ht : t ∈ ["NoneType", "bool", "int", "str", "tuple", "list"] := by cases x <;> cases h <;> decide
    unfold isi2D
    rw [h]
    show ((kitB t "tuple").bind fun b => if b then some (D.bl true) else (kitB t "list").map D.bl) = _
    rw [kitB_tab t ht "tuple" (by decide), kitB_tab t ht "list" (by decide)]
    by_cases e : t = "tuple" <;> by_cases e2 : t = "list" <;> simp [e, e2]
  cases x <;> first | (cases q; done) | (rw [key _ rfl, ← q]; simp [Mini.primD])
end
end Snd
end
section
set_option maxRecDepth 100000
set_option maxHeartbeats 4000000
/-! SndV: functions as values: named, called through a name that holds one. -/
namespace Snd
open PySem PySem.Spec PyProof.Rows L2
open Mini (D Sl Xc Res SRes Ex Ar Itr Stm Tgt Prim)
section
variable {G : Gy} {K : CK} {c : Sc} {X : Cx} {C : FCx} {m n : Nat} {ι ι' : List Addr} {W W' Z : Addr → Prop} {H H' : Hp} {ρ ρ' : Mini.Env} {st st' : Mini.Store} {σ σ' : L2.St}
/-- the name of a def -/
theorem se_fnv {s : Str} {f np : Nat} {p : Pos} (hX : XOk G X m) (g : Glo G K m) (h1 : K.gi.lookup s = some (.fn f np)) (h2 : K.fv f = true) (hg : Gl X s) (hdb : (s == ("__debug__" : Str)) = false) : PE X (.Name s p) (tE G C .strong fun _ st => .ok (.fn f) st) := by
  obtain ⟨fd, ps, m1, _⟩ := g.fn s f np h1
  exact se_con (d := .fn f) (v := .ref (G.fa f)) (pe_glob hg (by rw [hX.mg]; exact m1) rfl hdb) fun ι W H => .fn (g.fnI s f np h1 h2)
abbrev callvG (cf : Mini.CallF) (i : Nat) (gs : EvS) : Ev := fun ρ st => match ρ[i]? with
  | some (.val (.fn f)) => (gs ρ st).bind fun ss st1 => cf f ss st1
  | _ => .stuck
/-- what a slot must hold -/
theorem callv_slot {i : Nat} {gs : EvS} {Q : VK} (R : Rl G.toGx C ρ st ι σ H) (q : PostE G C .strong ρ ι σ H (callvG (cfN G m) i gs ρ st) Q) :
    ∃ s f np, σ[i]? = some (some (.ref (G.fa f))) ∧ G.fnp s f np ∧ PostE G C .strong ρ ι σ H ((gs ρ st).bind fun ss st1 => cfN G m f ss st1) Q := by
  unfold callvG at q
  split at q
  · rename_i f es1
    obtain ⟨v, ef, hc⟩ := R.slot i _ es1
    cases hc with
    | fn h => exact ⟨_, f, _, ef, h, q⟩
  · exact q.elim
/-- a call of too few or too many says nothing -/
theorem call_np {f : Nat} {d : Mini.Dfn} {ss : List Sl} (hd : G.prog.defs[f]? = some d) (h : ss.length ≠ d.np) : cfN G m f ss st = .stuck := by
  cases m with
  | zero => rfl
  | succ m =>
    show Mini.callN G.prog G.wf (m + 1) f ss st = _
    unfold Mini.callN
    rw [hd]
    dsimp only
    rw [if_neg h]
theorem se_callv {i : Nat} {e : Expr} {es : List Expr} {gs : EvS} {x : Str} {p pos : Pos} (hX : XOk G X m) (g : Glo G K m) (hx : Passes (L2N.CX X.prog X.w) X C.EE)
    (hN : X.N[i]? = some x) (hv : Vis X.env.scope x) (hdb : (x == ("__debug__" : Str)) = false) (hcd : (x == ("__classdict__" : Str)) = false) (ns : ∀ e' ∈ e :: es, NoStar e')
    (hl : ∀ ρ st ss st1, gs ρ st = .ok ss st1 → Hands G X C ss) (ha : PA X (e :: es) (tS G C gs)) :
    PE X (.Call (.Name x p) (e :: es) [] pos) (tE G C .strong (callvG (cfN G m) i gs)) := by
  refine ⟨fun pins s σ H Q I ⟨ρ, st, ι, R, q⟩ => ?_⟩
  obtain ⟨sn, f, np, ef, hf, q⟩ := callv_slot R q
  obtain ⟨hk, d, hd, hnp⟩ := g.fnE _ _ _ hf
  obtain ⟨fd, ps, m1, m2, m3, m4⟩ := g.fn _ _ _ hk
  have F : FnC X.prog X.w X.K X.mg X.base (L2N.CX X.prog X.w) m (G.fa f) fd ps (SpC G (cfN G m f) np) := by
    rw [hX.p, hX.w, hX.k, hX.mg, hX.base]; exact m4
  have kp : PySem.W.keepIn X.K (.ref (G.fa f)) = true := by rw [hX.k]; exact m2
  have bd : Binds X.K fd ps [] := by rw [hX.k]; exact m3
  refine wpAny_Call_Name_kw (name_clo hN hv hdb hcd I ef fun s1 I1 => ?_)
  refine PySem.W.callWith_K (h₀ := X.base) I1.ok.mod.kin kp ?_ (star_cons (ns e List.mem_cons_self) es _) (plain_star (fun e' h => ns e' (List.mem_cons_of_mem _ h)) _ _)
  refine thn (ha.run pos pins s1 σ H (fun vs H1 => ∃ ss st1 ι1, gs ρ st = .ok ss st1 ∧ Rl G.toGx C ρ st1 ι1 σ H1 ∧ PresR G.toGx C σ ι1 (Wr C ι1 ρ σ) H1 ss vs ∧ PostE G C .strong ρ ι1 σ H1 (cfN G m f ss st1) Q) I1 ⟨ρ, st, ι, R, ?_⟩)
    fun us s2 ⟨vs, H1, I2, r1, ss, st1, ι1, e1, R1, w1, q1⟩ => ⟨I2.kIn, ?_⟩
  · cases e1 : gs ρ st with
    | ok ss st1 => rw [e1] at q; exact fun vs ι1 H1 R1 S1 w1 => ⟨ss, st1, ι1, rfl, R1, w1, PostE.from S1 q⟩
    | raise x st1 => rw [e1] at q; exact q
    | stuck => rw [e1] at q; exact q
  · by_cases hlen : ss.length = np
    · exact run_fnC F hX.room bd hx I2 r1 (call_post (by rw [← w1.length]; exact hlen) R1 (hl _ _ _ _ e1 pins σ H1 s2 ι1 _ vs I2 w1) q1)
    · rw [call_np hd (by rw [hnp]; exact hlen)] at q1
      exact q1.elim
end
end Snd
end
section
set_option maxRecDepth 100000
set_option maxHeartbeats 4000000
/-! Snd22: the reader is right, of all expressions. -/
namespace Snd
open PySem PySem.Spec PyProof.Rows L2
open Mini (D Sl Xc Res SRes Ex Ar Itr Stm Tgt Prim)
section
variable {G : Gy} {K : CK} {c : Sc} {X : Cx} {C : FCx} {m : Nat} {ι ι' : List Addr} {H H' : Hp} {ρ : Mini.Env} {σ : L2.St}
theorem passes_no {X : Cx} : Passes (L2N.CX X.prog X.w) X (fun _ _ _ => False) := fun pins σ H s e s' I h => by
  rcases h with ⟨_, _, _, _, _, _, _, _, _, _, _, _, z⟩
  exact z.elim
theorem AmbE.blk {C : FCx} (A : AmbE G c X C m) (scope : Scope) (ρ : Mini.Env) (σ : L2.St) (p : Addr) (s : Shared) (H : Hp) (a : Addr) (cl : List (Str × Addr)) (fp : List Addr) :
    AmbE G ⟨c.N, relS scope c.sc, false, c.qual, false⟩ (X.blk s H scope (compEnvC scope cl a X.env) fp) (blkX C ρ σ p) m := by
  refine ⟨⟨A.x.p, A.x.w, A.x.k, A.x.mg, A.x.base, A.x.calm, A.x.room⟩, A.N, A.nd, ?_, (fun z => by cases z), (fun pins σ H s e s' I h => ?_), (fun z => by cases z), (fun z => by cases z)⟩
  · show relS scope X.env.scope = relS scope c.sc
    rw [A.sc]
  · obtain ⟨_, _, _, _, _, _, _, _, _, _, _, _, z⟩ := h
    exact z.elim
theorem rgV_rps (n : Int) : Rps G.toGx ι W H ((List.range n.toNat).map fun (k : Nat) => D.int (k : Int)) (rgV 0 n) := by
  unfold rgV
  rw [Int.sub_zero]
  have key : ∀ l : List Nat, Rps G.toGx ι W H (l.map fun (k : Nat) => D.int (k : Int)) (l.map fun i => V.int (0 + (i : Nat))) := by
    intro l
    induction l with
    | nil => exact .nil
    | cons a l ih =>
      refine .cons ?_ ih
      show Rp G.toGx ι W H (.int (a : Int)) (.int (0 + (a : Int)))
      rw [Int.zero_add]
      exact .int _
  exact key _
theorem se_listRg {k1 : Kd} {e : Expr} {g : Ev} {p p2 p3 pos : Pos} (hX : XOk G X m) (h1 : Gl X "list") (h2 : X.mg "list" = none) (h3 : Gl X "range") (h4 : X.mg "range" = none) (ns : NoStar e) (h : PE X e (tE G C k1 g)) :
    PE X (.Call (.Name "list" p) [.Call (.Name "range" p2) [e] [] p3] [] pos) (tE G C .fresh fun ρ st => (g ρ st).bind fun x st1 => Mini.lift (Mini.primD .listRange x) st1) := by
  refine peMono (pe_listRg hX.calm h1 h2 (prg_1 h3 h4 h (star_cons ns _ _)) rfl) fun σ H Q ⟨ρ, st, ι, R, q⟩ => tE_post R q fun x st1 v ι1 H1 e1 R1 S1 w1 q1 => ?_
  cases x <;> first | exact q1.elim | skip
  rename_i n
  refine ⟨n, w1.weak.int, ?_⟩
  have q1 : PostE G C .fresh ρ ι σ H (Mini.lift (if decide (n ≤ Mini.line) && decide (-(Mini.line : Int) ≤ n) then some (.lst ((List.range n.toNat).map fun (k : Nat) => D.int (k : Int))) else none) st1) Q := q1
  split at q1
  · rename_i hz
    simp only [and_tt, decide_eq_true_eq] at hz
    have hl : ((Mini.line : Nat) : Int) = 16777216 := rfl
    refine ⟨⟨by omega, by omega, by omega, by omega, ?_⟩, fun p hp => (PostE.from S1 q1) _ ι1 _ (R1.new hp).1 (R1.new hp).2 (R1.newLst hp (rgV_rps n))⟩
    omega
  · exact q1.elim
theorem evAs_len {gl : List D} {cf : Mini.CallF} : ∀ (as : List Ar) (ρ : Mini.Env) (st : Mini.Store) (ss : List Sl) (st1 : Mini.Store), Mini.evAs gl cf as ρ st = .ok ss st1 → ss.length = as.length
  | [], ρ, st, ss, st1, h => by
    have h : Res.ok [] st = Res.ok ss st1 := h
    cases h
    rfl
  | a :: as, ρ, st, ss, st1, h => by
    have h : ((Mini.evA gl cf a ρ st).bind fun s st1 => (Mini.evAs gl cf as ρ st1).bind fun ss st2 => .ok (s :: ss) st2) = .ok ss st1 := h
    cases e : Mini.evA gl cf a ρ st with
    | raise x st2 => rw [e] at h; cases h
    | stuck => rw [e] at h; cases h
    | ok s st2 =>
      rw [e] at h
      have h : ((Mini.evAs gl cf as ρ st2).bind fun ss st2 => .ok (s :: ss) st2) = .ok ss st1 := h
      cases e2 : Mini.evAs gl cf as ρ st2 with
      | raise x st3 => rw [e2] at h; cases h
      | stuck => rw [e2] at h; cases h
      | ok ss2 st3 =>
        rw [e2] at h
        have ih := evAs_len as ρ st2 ss2 st3 e2
        have h : Res.ok (s :: ss2) st3 = .ok ss st1 := h
        cases h
        simp [ih]
theorem evAs_val {K : CK} {gl : List D} {cf : Mini.CallF} : ∀ (as : List Ar) (c : Sc) (es : List Expr), c.frame = false → mAs K as c es = true → ∀ (ρ : Mini.Env) (st : Mini.Store) (ss : List Sl) (st1 : Mini.Store), Mini.evAs gl cf as ρ st = .ok ss st1 → ss.all isValB = true
  | [], c, es, hfr, hm, ρ, st, ss, st1, h => by
    have h : Res.ok [] st = Res.ok ss st1 := h
    cases h
    rfl
  | a :: as, c, [], hfr, hm, ρ, st, ss, st1, h => by unfold mAs at hm; cases hm
  | a :: as, c, e :: es, hfr, hm, ρ, st, ss, st1, h => by
    unfold mAs at hm
    simp only [and_tt] at hm
    have h : ((Mini.evA gl cf a ρ st).bind fun s st1 => (Mini.evAs gl cf as ρ st1).bind fun ss st2 => .ok (s :: ss) st2) = .ok ss st1 := h
    have h1 := hm.1.1
    cases a with
    | slot i =>
      unfold mA at h1
      obtain ⟨_, _, h2⟩ := andO_eq h1
      rw [hfr, Bool.and_false] at h2
      cases h2
    | lam k cap =>
      unfold mA at h1
      obtain ⟨_, _, h2⟩ := andO_eq h1
      unfold lamB at h2
      simp [hfr] at h2
    | e x =>
      have h : (((Mini.evE gl cf x ρ st).bind fun d st1 => .ok (Sl.val d) st1).bind fun s st1 => (Mini.evAs gl cf as ρ st1).bind fun ss st2 => .ok (s :: ss) st2) = .ok ss st1 := h
      cases e1 : Mini.evE gl cf x ρ st with
      | raise z st2 => rw [e1] at h; cases h
      | stuck => rw [e1] at h; cases h
      | ok d st2 =>
        rw [e1] at h
        have h : ((Mini.evAs gl cf as ρ st2).bind fun ss st2 => .ok (Sl.val d :: ss) st2) = .ok ss st1 := h
        cases e2 : Mini.evAs gl cf as ρ st2 with
        | raise z st3 => rw [e2] at h; cases h
        | stuck => rw [e2] at h; cases h
        | ok ss2 st3 =>
          rw [e2] at h
          have ih := evAs_val as c es hfr hm.2 ρ st2 ss2 st3 e2
          have h : Res.ok (Sl.val d :: ss2) st3 = .ok ss st1 := h
          cases h
          simpa [isValB] using ih
theorem one_var {gl : List D} {cf : Mini.CallF} {i : Nat} {ρ : Mini.Env} {st : Mini.Store} {f : List D → Mini.Store → Res D} : (Mini.evEs gl cf [.var i] ρ st).bind f = (Mini.lift (Mini.varD ρ i) st).bind fun b st2 => f [b] st2 := by
  have e : Mini.evEs gl cf [.var i] ρ st = (Mini.lift (Mini.varD ρ i) st).bind fun d st2 => .ok [d] st2 := rfl
  rw [e]
  cases Mini.varD ρ i <;> rfl
theorem sindex_ev {gl : List D} {cf : Mini.CallF} {o : Ex} {i : Nat} {ρ : Mini.Env} {st : Mini.Store} : Mini.evE gl cf (.meth .sindex o [.var i]) ρ st = (Mini.evE gl cf o ρ st).bind fun a st1 => (Mini.lift (Mini.varD ρ i) st1).bind fun b st2 => Mini.lift (Mini.sixD a b) st2 := by
  have e : Mini.evE gl cf (.meth .sindex o [.var i]) ρ st = (Mini.evE gl cf o ρ st).bind fun a st1 => (Mini.evEs gl cf [.var i] ρ st1).bind fun ys st2 => Mini.lift (Mini.methD .sindex a ys) st2 := rfl
  rw [e]
  congr 1
  funext a st1
  exact one_var
theorem tindex_ev {gl : List D} {cf : Mini.CallF} {i j : Nat} {ρ : Mini.Env} {st : Mini.Store} : Mini.evE gl cf (.meth .tindex (.rev (.var j)) [.var i]) ρ st = (Mini.lift (Mini.varD ρ j) st).bind fun a st1 => (Mini.lift (Mini.revD a) st1).bind fun b st2 => (Mini.lift (Mini.varD ρ i) st2).bind fun c st3 => Mini.lift (Mini.tixD b c) st3 := by
  have e : Mini.evE gl cf (.meth .tindex (.rev (.var j)) [.var i]) ρ st = ((Mini.lift (Mini.varD ρ j) st).bind fun a st1 => Mini.lift (Mini.revD a) st1).bind fun b st2 => (Mini.evEs gl cf [.var i] ρ st2).bind fun ys st3 => Mini.lift (Mini.methD .tindex b ys) st3 := rfl
  rw [e, Snd.bind_assoc]
  congr 1
  funext a st1
  congr 1
  funext b st2
  exact one_var
mutual
theorem soE (g : Glo G K m) : ∀ (x : Ex) (c : Sc) (e : Expr), mE K x c e = true → ∀ (X : Cx) (C : FCx), AmbE G c X C m → So G (cfN G m) X C x e
  | .con d, c, e, h, X, C, A => by
    rw [mE] at h
    replace h := andO_eq h
    obtain ⟨k, hk, h⟩ := h
    obtain ⟨j, p, rfl⟩ := vCon_eq hk
    exact So.plain (conB_rp h) fun _ => rfl
  | .var i, c, e, h, X, C, A => by
    rw [mE] at h
    replace h := andO_eq h
    obtain ⟨s, hs, h⟩ := h
    obtain ⟨p, rfl⟩ := vName_eq hs
    obtain ⟨h1, h2, h3, h4⟩ := nameB_eq A h
    exact So.plain (se_var (pe_var h1 h2 h3 h4)) fun _ => rfl
  | .peek i, c, e, h, X, C, A => by
    rw [mE] at h
    replace h := andO_eq h
    obtain ⟨s, hs, h⟩ := h
    obtain ⟨p, rfl⟩ := vName_eq hs
    obtain ⟨h1, h2, h3, h4⟩ := nameB_eq A h
    exact So.plain (se_peek (pe_var h1 h2 h3 h4)) fun _ => rfl
  | .glob n, c, e, h, X, C, A => by
    rw [mE] at h
    replace h := andO_eq h
    obtain ⟨s, hs, h⟩ := h
    obtain ⟨p, rfl⟩ := vName_eq hs
    simp only [and_tt, decide_eq_true_eq] at h
    obtain ⟨h1, h2, h3⟩ := glB_eq A h.1
    obtain ⟨u, v, d, e1, e2, e3, e4⟩ := g.con s n h.2
    refine So.plain (Snd.PE.conv (se_con (d := d) (pe_glob h1 (by rw [A.x.mg]; exact e1) e2 h2) e4) fun ρ st => ?_) fun _ => rfl
    show Mini.lift (G.prog.globs[n]?) st = _
    rw [e3]
    rfl
  | .tup xs, c, e, h, X, C, A => by
    rw [mE] at h
    replace h := andO_eq h
    obtain ⟨es, hs, h⟩ := h
    obtain ⟨j, p, rfl⟩ := vTup_eq hs
    exact So.plain (se_tup (soEs g xs c es h X C A).1) fun _ => rfl
  | .lst xs, c, e, h, X, C, A => by
    rw [mE] at h
    replace h := andO_eq h
    obtain ⟨es, hs, h⟩ := h
    obtain ⟨p, rfl⟩ := vLst_eq hs
    exact So.plain (se_lst (soEs g xs c es h X C A).1) fun _ => rfl
  | .cellL xs, c, e, h, X, C, A => by
    rw [mE] at h
    replace h := andO_eq h
    obtain ⟨es, hs, h⟩ := h
    obtain ⟨p, rfl⟩ := vLst_eq hs
    exact So.plain (se_cell (soEs g xs c es h X C A).1) fun _ => rfl
  | .dict0, c, e, h, X, C, A => absurd (show false = true from h) Bool.false_ne_true
  | .dict1 _ _, c, e, h, X, C, A => absurd (show false = true from h) Bool.false_ne_true
  | .bin o a b, c, e, h, X, C, A => by
    rw [mE] at h
    replace h := andO_eq h
    obtain ⟨⟨ea, eo, eb⟩, hs, h⟩ := h
    obtain ⟨p, rfl⟩ := vBin_eq hs
    simp only [and_tt, decide_eq_true_eq] at h
    obtain ⟨⟨rfl, h1⟩, h2⟩ := h
    exact So.plain (se_bin (ops_bin A.x o) (show Kd.fresh ≠ .weak by decide) (soE g a c ea h1 X C A).1 (soE g b c eb h2 X C A).1) fun _ => rfl
  | .cmp o a b, c, e, h, X, C, A => by
    rw [mE] at h
    replace h := andO_eq h
    obtain ⟨⟨ea, eo, eb⟩, hs, h⟩ := h
    obtain ⟨p, rfl⟩ := vCmp_eq hs
    simp only [and_tt, decide_eq_true_eq] at h
    obtain ⟨⟨⟨rfl, h0⟩, h1⟩, h2⟩ := h
    have ha := (soE g a c ea h1 X C A).1
    have hb := (soE g b c eb h2 X C A).1
    exact ⟨se_cmp (ops_cmp A.x o) (show Kd.strong ≠ .weak by decide) (noSet_of h0 _) ha hb, st_cmp (ops_cmp A.x o) (noSet_of h0 _) ha hb⟩
  | .chain o p a b d, c, e, h, X, C, A => by
    rw [mE] at h
    replace h := andO_eq h
    obtain ⟨⟨ea, eo, eb, ep, ed⟩, hs, h⟩ := h
    obtain ⟨q, rfl⟩ := vChain_eq hs
    simp only [and_tt, decide_eq_true_eq] at h
    obtain ⟨⟨⟨⟨⟨rfl, rfl⟩, h0⟩, h1⟩, h2⟩, h3⟩ := h
    have ha := (soE g a c ea h1 X C A).1
    have hb := (soE g b c eb h2 X C A).1
    have hd := (soE g d c ed h3 X C A).1
    exact ⟨se_chain (ops_cmp A.x o) (ops_cmp A.x p) (noSet_of h0 _) ha hb hd, st_chain (ops_cmp A.x o) (ops_cmp A.x p) (noSet_of h0 _) ha hb hd⟩
  | .and a b, c, e, h, X, C, A => by
    rw [mE] at h
    replace h := andO_eq h
    obtain ⟨⟨eo, ea, eb⟩, hs, h⟩ := h
    simp only [and_tt, decide_eq_true_eq] at h
    obtain ⟨⟨⟨rfl, h1⟩, h2⟩, h3⟩ := h
    exact So.and (soE g a c ea h1 X C A) (soE g b c eb h2 X C A) hs h3
  | .or a b, c, e, h, X, C, A => by
    rw [mE] at h
    replace h := andO_eq h
    obtain ⟨⟨eo, ea, eb⟩, hs, h⟩ := h
    simp only [and_tt, decide_eq_true_eq] at h
    obtain ⟨⟨⟨rfl, h1⟩, h2⟩, h3⟩ := h
    exact So.or (soE g a c ea h1 X C A) (soE g b c eb h2 X C A) hs h3
  | .not a, c, e, h, X, C, A => by
    rw [mE] at h
    replace h := andO_eq h
    obtain ⟨⟨eo, ea⟩, hs, h⟩ := h
    simp only [and_tt, decide_eq_true_eq] at h
    obtain ⟨rfl, h1⟩ := h
    obtain ⟨p, rfl⟩ := vUn_eq hs
    obtain ⟨i1, i2⟩ := soE g a c ea h1 X C A
    exact ⟨se_not i1, st_not i2⟩
  | .neg a, c, e, h, X, C, A => by
    rw [mE] at h
    replace h := andO_eq h
    obtain ⟨⟨eo, ea⟩, hs, h⟩ := h
    simp only [and_tt, decide_eq_true_eq] at h
    obtain ⟨rfl, h1⟩ := h
    obtain ⟨p, rfl⟩ := vUn_eq hs
    exact So.plain (se_neg (soE g a c ea h1 X C A).1) fun _ => rfl
  | .ite t a b, c, e, h, X, C, A => by
    rw [mE] at h
    replace h := andO_eq h
    obtain ⟨⟨et, ea, eb⟩, hs, h⟩ := h
    simp only [and_tt, decide_eq_true_eq] at h
    obtain ⟨⟨⟨⟨h0, h1⟩, h2⟩, h3⟩, h4⟩ := h
    obtain ⟨p, rfl⟩ := vIf_eq hs
    have i0 := soE g t c et h0 X C A
    have i1 := soE g a c ea h1 X C A
    have i2 := soE g b c eb h2 X C A
    exact ⟨se_ite i0.2 (firm_of h3 i1.1) (firm_of h4 i2.1), st_ite i0.2 i1.2 i2.2⟩
  | .idx a i, c, e, h, X, C, A => by
    rw [mE] at h
    replace h := andO_eq h
    obtain ⟨⟨ea, ei⟩, hs, h⟩ := h
    simp only [and_tt] at h
    rcases h with ⟨⟨h1, h2⟩, h3⟩
    obtain ⟨p, rfl⟩ := vIdx_eq hs
    exact So.plain (se_idx A.x (soE g a c ea h1 X C A).1 (soE g i c ei h2 X C A).1 (plainIx_of h3)) fun _ => rfl
  | .slice a lo hi, c, e, h, X, C, A => by
    rw [mE] at h
    replace h := andO_eq h
    obtain ⟨⟨ea, ei⟩, hs, h⟩ := h
    simp only [and_tt] at h
    obtain ⟨h1, h2⟩ := h
    replace h2 := andO_eq h2
    obtain ⟨⟨el, eh⟩, hs2, h2⟩ := h2
    simp only [and_tt] at h2
    obtain ⟨p, rfl⟩ := vIdx_eq hs
    obtain ⟨q, rfl⟩ := vSlice_eq hs2
    exact So.plain (se_slice A.x (soE g a c ea h1 X C A).1 (soI g lo c el h2.1 X C A) (soI g hi c eh h2.2 X C A)) fun _ => rfl
  | .rev a, c, e, h, X, C, A => by
    rw [mE] at h
    replace h := andO_eq h
    obtain ⟨⟨ea, ei⟩, hs, h⟩ := h
    simp only [and_tt] at h
    obtain ⟨h1, h2⟩ := h
    replace h2 := Option.isSome_iff_exists.mp h2
    obtain ⟨u, h2⟩ := h2
    obtain ⟨p, rfl⟩ := vIdx_eq hs
    obtain ⟨j, p1, p2, p3, rfl⟩ := vBack_eq h2
    exact So.plain (se_rev A.x (soE g a c ea h1 X C A).1) fun _ => rfl
  | .call f as, c, e, h, X, C, A => by
    rw [mE] at h
    replace h := andO_eq h
    obtain ⟨⟨s, es⟩, hs, h⟩ := h
    simp only [and_tt, decide_eq_true_eq] at h
    rcases h with ⟨⟨h1, h2⟩, h3⟩
    obtain ⟨p, q, rfl⟩ := vCall_eq hs
    obtain ⟨k1, k2, k3⟩ := glB_eq A h1
    obtain ⟨fd, ps, m1, m2, m3, m4⟩ := g.fn s f as.length h2
    obtain ⟨i1, i2, i3⟩ := soAs g as c es h3 X C A
    have F : FnC X.prog X.w X.K X.mg X.base (L2N.CX X.prog X.w) m (G.fa f) fd ps (SpC G (cfN G m f) as.length) := by
      rw [A.x.p, A.x.w, A.x.k, A.x.mg, A.x.base]; exact m4
    have mg : X.mg s = some (.ref (G.fa f)) := by rw [A.x.mg]; exact m1
    have kp : PySem.W.keepIn X.K (.ref (G.fa f)) = true := by rw [A.x.k]; exact m2
    have bd : Binds X.K fd ps [] := by rw [A.x.k]; exact m3
    refine So.plain ?_ fun _ => rfl
    cases es with
    | nil =>
      cases as with
      | nil => exact se_call0 F A.x.room k1 mg kp bd A.ps k2
      | cons a as => cases i3
    | cons e es => exact se_call F A.x.room k1 mg kp bd A.ps k2 i2 (fun ρ st ss st1 z => ⟨evAs_len as ρ st ss st1 z, by
        cases hfr : c.frame with
        | false => exact fun _ _ _ _ _ _ _ _ w => w.vals (evAs_val as c (e :: es) hfr h3 ρ st ss st1 z)
        | true =>
          obtain ⟨y1, y2, y3, y4⟩ := A.clo hfr
          exact hands_of y1 y2 y3 (A.fn hfr) y4⟩) i1
  | .fnv f, c, e, h, X, C, A => by
    rw [mE] at h
    replace h := andO_eq h
    obtain ⟨s, hs, h⟩ := h
    obtain ⟨p, rfl⟩ := vName_eq hs
    simp only [and_tt] at h
    obtain ⟨⟨h1, h2⟩, h3⟩ := h
    split at h3
    · rename_i f' np hk
      obtain rfl : f' = f := of_decide_eq_true h3
      obtain ⟨k1, k2, k3⟩ := glB_eq A h1
      exact So.plain (se_fnv A.x g hk h2 k1 k2) fun _ => rfl
    · cases h3
  | .callv i as, c, e, h, X, C, A => by
    rw [mE] at h
    replace h := andO_eq h
    obtain ⟨⟨s, es⟩, hs, h⟩ := h
    simp only [and_tt] at h
    rcases h with ⟨⟨h1, h2⟩, h3⟩
    obtain ⟨p, q, rfl⟩ := vCall_eq hs
    obtain ⟨k1, k2, k3, k4⟩ := nameB_eq A h1
    obtain ⟨i1, i2, i3⟩ := soAs g as c es h3 X C A
    refine So.plain ?_ fun _ => rfl
    cases es with
    | nil =>
      cases as with
      | nil => cases h2
      | cons a as => cases i3
    | cons e es => exact se_callv A.x g A.ps k1 k2 k3 k4 i2 (fun ρ st ss st1 z => by
        cases hfr : c.frame with
        | false => exact fun _ _ _ _ _ _ _ _ w => w.vals (evAs_val as c (e :: es) hfr h3 ρ st ss st1 z)
        | true =>
          obtain ⟨y1, y2, y3, y4⟩ := A.clo hfr
          exact hands_of y1 y2 y3 (A.fn hfr) y4) i1
  | .callc i as, c, e, h, X, C, A => by
    rw [mE] at h
    replace h := andO_eq h
    obtain ⟨⟨s, es⟩, hs, h⟩ := h
    simp only [and_tt] at h
    rcases h with ⟨⟨h1, h2⟩, h3⟩
    obtain ⟨p, q, rfl⟩ := vCall_eq hs
    obtain ⟨k1, k2, k3, k4⟩ := nameB_eq A h1
    obtain ⟨_, _, _, y4⟩ := A.clo h2
    obtain ⟨i1, i2⟩ := soEs g as c es h3 X C A
    refine So.plain ?_ fun _ => rfl
    cases es with
    | nil =>
      cases as with
      | nil => exact se_callc0 A.x g.lam y4 A.ps k1 k2 k3 k4
      | cons a as => unfold mEs at h3; cases h3
    | cons e es => exact se_callc A.x g.lam y4 A.ps k1 k2 k3 k4 i2 i1
  | .meth m o as, c, e, h, X, C, A => by
    rw [mE] at h
    replace h := andO_eq h
    obtain ⟨⟨eo, nm, ex⟩, hs, h⟩ := h
    simp only [and_tt, decide_eq_true_eq] at h
    obtain ⟨rfl, h⟩ := h
    obtain ⟨p, q, rfl, hl⟩ := vMeth_eq hs
    split at h
    · rename_i i
      simp only [and_tt] at h
      obtain ⟨⟨h1, h2⟩, h⟩ := h
      replace h := andO_eq h
      obtain ⟨s, hs2, h⟩ := h
      obtain ⟨px, rfl⟩ := vName_eq hs2
      obtain ⟨k1, k2, k3, k4⟩ := nameB_eq A h
      exact So.plain (Snd.PE.conv (se_sindex A.x h1 hl (soE g o c eo h2 X C A).1 (pe_var k1 k2 k3 k4)) fun ρ st => sindex_ev) fun _ => rfl
    · rename_i i
      split at h
      · rename_i j
        replace h := andO_eq h
        obtain ⟨⟨ea, ei⟩, hs3, h⟩ := h
        simp only [and_tt] at h
        obtain ⟨⟨h2, h1⟩, h⟩ := h
        replace h := andO_eq h
        obtain ⟨s, hs2, h⟩ := h
        replace h1 := andO_eq h1
        obtain ⟨t, hs4, h1⟩ := h1
        replace h2 := Option.isSome_iff_exists.mp h2
        obtain ⟨u, h2⟩ := h2
        obtain ⟨px, rfl⟩ := vName_eq hs2
        obtain ⟨p5, rfl⟩ := vName_eq hs4
        obtain ⟨p4, rfl⟩ := vIdx_eq hs3
        obtain ⟨j, p1, p2, p3, rfl⟩ := vBack_eq h2
        obtain ⟨k1, k2, k3, k4⟩ := nameB_eq A h
        obtain ⟨l1, l2, l3, l4⟩ := nameB_eq A h1
        exact So.plain (Snd.PE.conv (se_tindex A.x hl (se_var (pe_var l1 l2 l3 l4)) (pe_var k1 k2 k3 k4)) fun ρ st => tindex_ev) fun _ => rfl
      · cases h
    · cases h
  | .prim p a, c, e, h, X, C, A => by
    rw [mE] at h
    replace h := andO_eq h
    obtain ⟨⟨s, es⟩, hs, h⟩ := h
    simp only [and_tt] at h
    obtain ⟨h0, h⟩ := h
    obtain ⟨k1, k2, k3, k4⟩ := bltB_eq A g h0
    obtain ⟨pp, qq, rfl⟩ := vCall_eq hs
    split at h
    · simp only [and_tt, decide_eq_true_eq] at h
      obtain ⟨rfl, h⟩ := h
      replace h := andO_eq h
      obtain ⟨x, hx, h⟩ := h
      replace h := andO_eq h
      obtain ⟨⟨s2, es2⟩, hs2, h⟩ := h
      simp only [and_tt, decide_eq_true_eq] at h
      obtain ⟨⟨rfl, h1⟩, h⟩ := h
      replace h := andO_eq h
      obtain ⟨y, hy, h⟩ := h
      simp only [and_tt] at h
      obtain ⟨p2, q2, rfl⟩ := vCall_eq hs2
      obtain rfl := one_eq hx
      obtain rfl := one_eq hy
      obtain ⟨l1, l2, _, _⟩ := bltB_eq A g h1
      exact So.plain (se_listRg A.x k1 k2 l1 l2 (noStar_of h.1) (soE g a c y h.2 X C A).1) fun _ => rfl
    · simp only [and_tt, decide_eq_true_eq] at h
      obtain ⟨rfl, h⟩ := h
      replace h := andO_eq h
      obtain ⟨⟨x, t⟩, hx, h⟩ := h
      simp only [and_tt, decide_eq_true_eq] at h
      obtain ⟨⟨n1, h1⟩, h⟩ := h
      replace h := andO_eq h
      obtain ⟨es2, ht, h⟩ := h
      replace h := andO_eq h
      obtain ⟨⟨z1, z2⟩, hz, h⟩ := h
      simp only [and_tt, decide_eq_true_eq] at h
      obtain ⟨⟨⟨hz1, hz2⟩, b1⟩, b2⟩ := h
      obtain rfl := two_eq hx
      obtain rfl := two_eq hz
      obtain ⟨j, p3, rfl⟩ := vTup_eq ht
      obtain ⟨p4, rfl⟩ := vName_eq hz1
      obtain ⟨p5, rfl⟩ := vName_eq hz2
      obtain ⟨l1, l2, l3, l4⟩ := bltB_eq A g b1
      obtain ⟨l5, l6, l7, l8⟩ := bltB_eq A g b2
      refine So.plain ?_ fun _ => rfl
      refine peMono (se_isi2 A.x k1 k2 l1 l2 (T := "tuple") (by decide +kernel) l5 l6 (U := "list") (by decide +kernel) l4 l3 l8 l7 (noStar_of n1) (soE g a c x h1 X C A).1) fun σ H Q ⟨ρ, st, ι, R, q⟩ => ⟨ρ, st, ι, R, ?_⟩
      have q : PostE G C .strong ρ ι σ H ((Mini.evE G.prog.globs (cfN G m) a ρ st).bind fun x st1 => Mini.lift (Mini.primD .isSeq x) st1) Q := q
      show PostE G C .strong ρ ι σ H ((Mini.evE G.prog.globs (cfN G m) a ρ st).bind fun x st1 => Mini.lift (isi2D "tuple" "list" x) st1) Q
      cases ea : Mini.evE G.prog.globs (cfN G m) a ρ st with
      | raise x st1 => rw [ea] at q; exact q
      | stuck => rw [ea] at q; exact q
      | ok x st1 =>
        rw [ea] at q
        have q : PostE G C .strong ρ ι σ H (Mini.lift (Mini.primD .isSeq x) st1) Q := q
        show PostE G C .strong ρ ι σ H (Mini.lift (isi2D "tuple" "list" x) st1) Q
        cases hd : Mini.primD .isSeq x with
        | none => rw [hd] at q; exact q.elim
        | some d => rw [hd] at q; rw [prim_seq hd]; exact q
    · split at h
      · rename_i r hr
        simp only [and_tt, decide_eq_true_eq] at h
        obtain ⟨rfl, h⟩ := h
        replace h := andO_eq h
        obtain ⟨y, hy, h⟩ := h
        simp only [and_tt] at h
        obtain rfl := one_eq hy
        obtain ⟨s, b, id⟩ := r
        have hk : kd (.prim p a) = .fresh := by cases p <;> first | rfl | cases hr
        refine So.plain ?_ fun _ => rfl
        rw [hk]
        rcases prim_fn A.x hr with ⟨_, b1, b2⟩ | ⟨_, b1, b2⟩
        · exact se_primB b2 (by decide) k1 k2 b1 k4 k3 (noStar_of h.1) (soE g a c y h.2 X C A).1
        · exact se_primT b2 (by decide) k1 k2 b1 k4 k3 (noStar_of h.1) (soE g a c y h.2 X C A).1
      · split at h
        · rename_i T hT
          simp only [and_tt, decide_eq_true_eq] at h
          obtain ⟨rfl, h⟩ := h
          replace h := andO_eq h
          obtain ⟨⟨x, t⟩, hx, h⟩ := h
          simp only [and_tt, decide_eq_true_eq] at h
          obtain ⟨⟨⟨n1, h1⟩, hn⟩, b1⟩ := h
          obtain rfl := two_eq hx
          obtain ⟨p3, rfl⟩ := vName_eq hn
          obtain ⟨l1, l2, l3, l4⟩ := bltB_eq A g b1
          obtain ⟨U, u1, u2, u3⟩ := prim_isi hT
          refine So.plain ?_ fun _ => rfl
          rw [u2 a]
          refine peMono (se_isi A.x k1 k2 l1 l2 u1 l4 l3 (noStar_of n1) (soE g a c x h1 X C A).1) fun σ H Q ⟨ρ, st, ι, R, q⟩ => ⟨ρ, st, ι, R, ?_⟩
          have q : PostE G C .strong ρ ι σ H ((Mini.evE G.prog.globs (cfN G m) a ρ st).bind fun x st1 => Mini.lift (Mini.primD p x) st1) Q := q
          show PostE G C .strong ρ ι σ H ((Mini.evE G.prog.globs (cfN G m) a ρ st).bind fun x st1 => Mini.lift (isiD U x) st1) Q
          cases ea : Mini.evE G.prog.globs (cfN G m) a ρ st with
          | raise x st1 => rw [ea] at q; exact q
          | stuck => rw [ea] at q; exact q
          | ok x st1 =>
            rw [ea] at q
            have q : PostE G C .strong ρ ι σ H (Mini.lift (Mini.primD p x) st1) Q := q
            show PostE G C .strong ρ ι σ H (Mini.lift (isiD U x) st1) Q
            cases hd : Mini.primD p x with
            | none => rw [hd] at q; exact q.elim
            | some d => rw [hd] at q; rw [u3 x d hd]; exact q
        · cases h
  | .lc elt t it ifs, c, e, h, X, C, A => by
    rw [mE] at h
    replace h := andO_eq h
    obtain ⟨⟨eelt, tg, iter, eifs, scope⟩, hs, h⟩ := h
    simp only [and_tt] at h
    rcases h with ⟨⟨⟨⟨⟨⟨h1, h2⟩, h3⟩, h4⟩, h5⟩, h6⟩, h7⟩
    obtain ⟨p, rfl⟩ := vLc_eq hs
    have ok : BlkOk X.N X.env.scope scope (ownT c.N t) := by rw [A.N, A.sc]; exact blkOk_by h1
    have own : (ownT c.N t).map (·.2) = Mini.slotsT t := by
      unfold ownT
      rw [List.map_map]
      exact List.map_id _
    refine So.plain ?_ fun _ => rfl
    refine Snd.PE.conv (se_lc A.x (by rw [A.N]; exact A.nd) (soIt g it c tg iter h3 X C A) ok own
      (fun ρ σ p s H a cl fp => soG (A.blk scope ρ σ p s H a cl fp) t tg h4)
      (fun ρ σ p s H a cl fp => soF g ifs _ eifs h7 _ _ (A.blk scope ρ σ p s H a cl fp))
      (fun ρ σ p s H a cl fp => firm_of h6 (soE g elt _ eelt h5 _ _ (A.blk scope ρ σ p s H a cl fp)).1) (fun x => noFold_of h2 _ x)) fun ρ st => rfl
theorem soEs (g : Glo G K m) : ∀ (xs : List Ex) (c : Sc) (es : List Expr), mEs K xs c es = true → ∀ (X : Cx) (C : FCx), AmbE G c X C m → PA X es (tA G C (Mini.evEs G.prog.globs (cfN G m) xs)) ∧ ∀ e ∈ es, NoStar e
  | [], c, [], h, X, C, A => ⟨sa_nil, (by intro e z; cases z)⟩
  | [], c, e :: es, h, X, C, A => absurd (show false = true from h) Bool.false_ne_true
  | x :: xs, c, [], h, X, C, A => absurd (show false = true from h) Bool.false_ne_true
  | x :: xs, c, e :: es, h, X, C, A => by
    rw [mEs] at h
    simp only [and_tt] at h
    rcases h with ⟨⟨⟨h1, h2⟩, h3⟩, h4⟩
    obtain ⟨i1, i2⟩ := soEs g xs c es h4 X C A
    refine ⟨sa_cons (noStar_of h3) (firm_of h2 (soE g x c e h1 X C A).1) i1, fun e' he => ?_⟩
    rcases List.mem_cons.1 he with rfl | he
    · exact noStar_of h3
    · exact i2 e' he
theorem soAs (g : Glo G K m) : ∀ (xs : List Ar) (c : Sc) (es : List Expr), mAs K xs c es = true → ∀ (X : Cx) (C : FCx), AmbE G c X C m → PA X es (tS G C (Mini.evAs G.prog.globs (cfN G m) xs)) ∧ (∀ e ∈ es, NoStar e) ∧ es.length = xs.length
  | [], c, [], h, X, C, A => ⟨ss_nil, (by intro e z; cases z), rfl⟩
  | [], c, e :: es, h, X, C, A => absurd (show false = true from h) Bool.false_ne_true
  | x :: xs, c, [], h, X, C, A => absurd (show false = true from h) Bool.false_ne_true
  | x :: xs, c, e :: es, h, X, C, A => by
    rw [mAs] at h
    simp only [and_tt] at h
    obtain ⟨⟨h1, h3⟩, h4⟩ := h
    obtain ⟨i1, i2, i3⟩ := soAs g xs c es h4 X C A
    refine ⟨ss_cons (noStar_of h3) (soA g x c e h1 X C A) i1, fun e' he => ?_, by simp [i3]⟩
    rcases List.mem_cons.1 he with rfl | he
    · exact noStar_of h3
    · exact i2 e' he
theorem soA (g : Glo G K m) : ∀ (x : Ar) (c : Sc) (e : Expr), mA K x c e = true → ∀ (X : Cx) (C : FCx), AmbE G c X C m → PE X e (tS1 G C (Mini.evA G.prog.globs (cfN G m) x))
  | .e a, c, e, h, X, C, A => by
    rw [mA] at h
    simp only [and_tt] at h
    exact s1_val (firm_of h.2 (soE g a c e h.1 X C A).1)
  | .slot i, c, e, h, X, C, A => by
    unfold mA at h
    replace h := andO_eq h
    obtain ⟨s, hs, h⟩ := h
    simp only [and_tt] at h
    obtain ⟨p, rfl⟩ := vName_eq hs
    obtain ⟨k1, k2, k3, k4⟩ := nameB_eq A h.1
    exact s1_slot k1 k2 k3 k4
  | .lam k js, c, e, h, X, C, A => by
    unfold mA at h
    replace h := andO_eq h
    obtain ⟨⟨a, b, sc⟩, hs, h⟩ := h
    obtain ⟨p, rfl⟩ := vLam_eq hs
    unfold lamB at h
    simp only [Bool.and_eq_true, decide_eq_true_eq, List.isEmpty_iff] at h
    rcases h with ⟨⟨⟨⟨⟨⟨⟨h1, h2⟩, h3⟩, h4⟩, h5⟩, h6⟩, h7⟩, h8⟩
    obtain ⟨y1, y2, y3, y4⟩ := A.clo h1
    obtain ⟨z0, cc, tp, z1, z2, z3, z4⟩ := A.tab h2
    refine s1_lam (L := lamOf c js a b sc) (g.lok k _ h3) y1 y3 (fun y hy => ?_) (by rw [y2, A.N]; exact h4) z1 z2 ?_ z3 z4 ?_ fun y hy e => ?_
    · exact of_decide_eq_true (List.all_eq_true.mp h8 y hy)
    · show c.qual ++ _ = X.env.qual ++ _
      rw [z0]
    · show defaultsOf a X.env = ([], [])
      obtain ⟨a1, a2, a3, a4, a5, a6, a7⟩ := a
      have h5 : a7 = [] := h5
      have h6 : a5 = [] := h6
      subst h5
      subst h6
      rfl
    · have h7 := List.all_eq_true.mp h7 y hy
      rw [A.sc]
      simpa [e] using h7
theorem soI (g : Glo G K m) : ∀ (x : Option Ex) (c : Sc) (e : Option Expr), mI K x c e = true → ∀ (X : Cx) (C : FCx), AmbE G c X C m → PO X e (tO G C (Mini.evI G.prog.globs (cfN G m) x))
  | none, c, none, h, X, C, A => so_none
  | none, c, some e, h, X, C, A => absurd (show false = true from h) Bool.false_ne_true
  | some x, c, none, h, X, C, A => absurd (show false = true from h) Bool.false_ne_true
  | some x, c, some e, h, X, C, A => by
    rw [mI] at h
    exact so_some (soE g x c e h X C A).1
theorem soF (g : Glo G K m) : ∀ (x : Option Ex) (c : Sc) (es : List Expr), mF K x c es = true → ∀ (X : Cx) (C : FCx), AmbE G c X C m → PTs X es (tT G C (Mini.evT G.prog.globs (cfN G m) x))
  | none, c, es, h, X, C, A => by
    rw [mF] at h
    cases es with
    | nil => exact st_yes
    | cons e es => cases h
  | some x, c, es, h, X, C, A => by
    rw [mF] at h
    replace h := andO_eq h
    obtain ⟨e, he, h⟩ := h
    obtain rfl := one_eq he
    exact pts_one (soE g x c e h X C A).2
theorem soIt (g : Glo G K m) : ∀ (x : Itr) (c : Sc) (tg e : Expr), mIt K x c tg e = true → ∀ (X : Cx) (C : FCx), AmbE G c X C m → PI X tg e (tI G C (Mini.evIt G.prog.globs (cfN G m) x))
  | .e a, c, tg, e, h, X, C, A => by
    rw [mIt] at h
    simp only [and_tt] at h
    exact si_any A.x (firm_of h.2 (soE g a c e h.1 X C A).1)
  | .range none b, c, tg, e, h, X, C, A => by
    rw [mIt] at h
    replace h := andO_eq h
    obtain ⟨⟨s, es⟩, hs, h⟩ := h
    simp only [and_tt, decide_eq_true_eq] at h
    obtain ⟨⟨rfl, h0⟩, h⟩ := h
    replace h := andO_eq h
    obtain ⟨y, hy, h⟩ := h
    simp only [and_tt] at h
    obtain ⟨p, q, rfl⟩ := vCall_eq hs
    obtain rfl := one_eq hy
    obtain ⟨k1, k2, _, _⟩ := bltB_eq A g h0
    exact si_range1 k1 k2 (noStar_of h.1) (soE g b c y h.2 X C A).1
  | .range (some a) b, c, tg, e, h, X, C, A => by
    rw [mIt] at h
    replace h := andO_eq h
    obtain ⟨⟨s, es⟩, hs, h⟩ := h
    simp only [and_tt, decide_eq_true_eq] at h
    obtain ⟨⟨rfl, h0⟩, h⟩ := h
    replace h := andO_eq h
    obtain ⟨⟨y, z⟩, hy, h⟩ := h
    simp only [and_tt] at h
    obtain ⟨⟨⟨n1, n2⟩, h1⟩, h2⟩ := h
    obtain ⟨p, q, rfl⟩ := vCall_eq hs
    obtain rfl := two_eq hy
    obtain ⟨k1, k2, _, _⟩ := bltB_eq A g h0
    exact si_range2 k1 k2 (noStar_of n1) (noStar_of n2) (soE g a c y h1 X C A).1 (soE g b c z h2 X C A).1
  | .enum a, c, tg, e, h, X, C, A => by
    rw [mIt] at h
    simp only [and_tt] at h
    obtain ⟨ht, h⟩ := h
    obtain ⟨ts, ht⟩ := Option.isSome_iff_exists.mp ht
    obtain ⟨j, p3, rfl⟩ := vTup_eq ht
    replace h := andO_eq h
    obtain ⟨⟨s, es⟩, hs, h⟩ := h
    simp only [and_tt, decide_eq_true_eq] at h
    obtain ⟨⟨rfl, h0⟩, h⟩ := h
    replace h := andO_eq h
    obtain ⟨y, hy, h⟩ := h
    simp only [and_tt] at h
    obtain ⟨⟨n1, h1⟩, h2⟩ := h
    obtain ⟨p, q, rfl⟩ := vCall_eq hs
    obtain rfl := one_eq hy
    obtain ⟨k1, k2, _, _⟩ := bltB_eq A g h0
    exact si_enum A.x k1 k2 (noStar_of n1) (firm_of h2 (soE g a c y h1 X C A).1)
  | .zip a b, c, tg, e, h, X, C, A => by
    rw [mIt] at h
    simp only [and_tt] at h
    obtain ⟨ht, h⟩ := h
    obtain ⟨ts, ht⟩ := Option.isSome_iff_exists.mp ht
    obtain ⟨j, p3, rfl⟩ := vTup_eq ht
    replace h := andO_eq h
    obtain ⟨⟨s, es⟩, hs, h⟩ := h
    simp only [and_tt, decide_eq_true_eq] at h
    obtain ⟨⟨rfl, h0⟩, h⟩ := h
    replace h := andO_eq h
    obtain ⟨⟨y, z⟩, hy, h⟩ := h
    simp only [and_tt] at h
    obtain ⟨⟨⟨⟨⟨n1, n2⟩, h1⟩, f1⟩, h2⟩, f2⟩ := h
    obtain ⟨p, q, rfl⟩ := vCall_eq hs
    obtain rfl := two_eq hy
    obtain ⟨k1, k2, _, _⟩ := bltB_eq A g h0
    exact si_zip A.x k1 k2 (noStar_of n1) (noStar_of n2) (firm_of f1 (soE g a c y h1 X C A).1) (firm_of f2 (soE g b c z h2 X C A).1)
end
end
end Snd
end
section
set_option maxRecDepth 100000
set_option maxHeartbeats 4000000
/-! SndP: two names at once, of which one or both hold a list or a dict of one's own. -/
namespace Snd
open PySem PySem.Spec PyProof.Rows L2
open Mini (D Sl Xc Res SRes Ex Ar Itr Stm Tgt)
section
variable {G : Gy} {C : FCx} {X : Cx} {n : Nat} {ι ι' : List Addr} {W W' : Addr → Prop} {H H' : Hp} {ρ ρ' : Mini.Env} {st st' : Mini.Store} {σ σ' : L2.St} {p : Addr}
theorem wr_hide {a : Addr} : Wr (hideC C p) ι ρ σ a ↔ Wr C ι ρ σ a ∨ a = p := by
  constructor
  · rintro (z | z | z | z | z)
    · exact .inl (.inl z)
    · exact .inl (.inr (.inl z))
    · exact .inl (.inr (.inr (.inl z)))
    · exact .inl (.inr (.inr (.inr z)))
    · exact .inr z
  · rintro ((z | z | z | z) | z)
    · exact .inl z
    · exact .inr (.inl z)
    · exact .inr (.inr (.inl z))
    · exact .inr (.inr (.inr (.inl z)))
    · exact .inr (.inr (.inr (.inr z)))
theorem Rl.unhide (R : Rl G.toGx (hideC C p) ρ st ι σ H) : Rl G.toGx C ρ st ι σ H := by
  have an : Stp ι (Wr (hideC C p) ι ρ σ) H ι (Wr C ι ρ σ) H := Snd.anti fun a z => wr_hide.mpr (.inl z)
  exact ⟨⟨R.snc.pre, R.snc.keep, R.snc.new, R.snc.there, R.snc.z, R.snc.tabs⟩, R.len, R.sto.monoW an, fun i s e => (R.slot i s e).mono an fun _ _ _ _ _ z => z, R.ownO, R.ownI, fun a ha => R.hidO a (.inl ha)⟩
/-- what may be written once a list just made is one's own -/
theorem wr_own {i : Nat} {d : D} (hl : i < σ.length) {a : Addr} (h : Wr C ι (ρ.set i (.own d)) (σ.set i (some (.ref p))) a) : Wr (hideC C p) ι ρ σ a := by
  rcases h with z | z | ⟨j, e, z1, z2⟩ | z
  · exact .inl z
  · exact .inr (.inl z)
  · by_cases q : i = j
    · subst q
      rw [List.getElem?_set_self hl] at z2
      cases z2
      exact wr_hide.mpr (.inr rfl)
    · rw [List.getElem?_set_ne q] at z1 z2
      exact .inr (.inr (.inl ⟨j, e, z1, z2⟩))
  · exact .inr (.inr (.inr (.inl z)))
theorem setO_isOwn {i : Nat} {d : D} {ρ1 : Mini.Env} (h : Mini.setO ρ i true d = some ρ1) : isOwn d := (setO_own h).2.1
abbrev parOG (is : List Nat) (os : List Bool) (ga gb : Ev) : EvSt := fun ρ st => match (ga ρ st).bind fun d st1 => (gb ρ st1).bind fun e st2 => .ok [d, e] st2 with
  | .ok ds st1 => Mini.nxO (Mini.setOs ρ is os ds) st1
  | .raise x st1 => .raise x st1
  | .stuck => .stuck
theorem setOs_two {i j : Nat} {o1 o2 : Bool} {d e : D} : Mini.setOs ρ [i, j] [o1, o2] [d, e] = (Mini.setO ρ i o1 d).bind fun ρ1 => Mini.setO ρ1 j o2 e := by
  show (Mini.setO ρ i o1 d).bind (fun ρ1 => (Mini.setO ρ1 j o2 e).bind fun ρ2 => some ρ2) = _
  congr 1
  funext ρ1
  cases Mini.setO ρ1 j o2 e <;> rfl
variable {i j : Nat} {x y : Str} {a b : Expr} {ga gb : Ev} {px py pt pt2 pos : Pos} {kt k2 : Nat}
/-- .. the second alone -/
theorem ss_par2v (hX : XOk G X n) (hN : X.N.Nodup) (hi : X.N[i]? = some x) (hj : X.N[j]? = some y) (hij : i ≠ j) (hx : X.env.scope.names.lookup x = some .local) (hy : X.env.scope.names.lookup y = some .local) (na : NoStar a) (nb : NoStar b)
    (ha : PE X a (tE G C .strong ga)) (hb : PE X b (tE G C .fresh gb)) (hw : swappedStores [.Tuple [.Name x px, .Name y py] kt pt] (.Tuple [a, b] k2 pt2) X.env = pure (some [x, y])) :
    PS X (.Assign [.Tuple [.Name x px, .Name y py] kt pt] (.Tuple [a, b] k2 pt2) pos) (tSt G C (parOG [i, j] [false, true] ga gb)) := by
  refine psMono (ps_par hX.calm hN hi hj hij hx hy (pa_cons ha (pa_cons hb pa_nil (star_cons nb _ _)) (star_cons na _ _)) hw rfl) fun F σ H ⟨ρ, st, ι, R, q⟩ => ?_
  refine tE_bind (G := G) (C := C) (k := .strong) R ?_ ?_ fun d st1 v ι1 H1 e1 R1 S1 w1 => ?_
  · intro z st1 e cls dx ι' H' R' ex
    simp only [parOG, e] at q
    exact q cls dx ρ ι' σ H' R' ex
  · intro e
    simp only [parOG, e] at q
    exact q
  refine tE_bind (G := G) (C := C) (k := .fresh) R1 ?_ ?_ fun d2 st2 w ι2 H2 e2 R2 S2 w2 => ?_
  · intro z st2 e cls dx ι' H' R' ex
    simp only [parOG, e1, Mini.Res.bind, e] at q
    exact q cls dx ρ ι' σ H' R' ex
  · intro e
    simp only [parOG, e1, Mini.Res.bind, e] at q
    exact q
  refine ⟨v, w, rfl, ?_⟩
  simp only [parOG, e1, Mini.Res.bind, e2] at q
  have q : PostSt G C ρ ι σ H (Mini.nxO (Mini.setOs ρ [i, j] [false, true] [d, d2]) st2) F := q
  rw [setOs_two] at q
  cases h1 : Mini.setO ρ i false d with
  | none => rw [h1] at q; exact q.elim
  | some ρ1 =>
    rw [h1] at q
    have q : PostSt G C ρ ι σ H (Mini.nxO (Mini.setO ρ1 j true d2) st2) F := q
    cases h2 : Mini.setO ρ1 j true d2 with
    | none => rw [h2] at q; exact q.elim
    | some ρ2 =>
      rw [h2] at q
      obtain ⟨l1, rfl⟩ := setO_val h1
      obtain ⟨l2, io, rfl⟩ := setO_own h2
      obtain ⟨p, rfl, hp, nw, hown⟩ := w2.2 io
      obtain ⟨o, ho, nt⟩ := hown.there
      have A1 := R1.setVal l1 w1
      have A2 := R2.setVal l1 (Rp.mono S2.stp _ _ w1)
      have sub : ∀ a, Wr C ι2 (ρ.set i (.val d)) (σ.set i (some v)) a → Wr C ι2 ρ σ a := fun a => wr_off fun _ z => by cases z
      have nw' : ¬ Wr C ι2 (ρ.set i (.val d)) (σ.set i (some v)) p := fun z => nw (sub p z)
      have hown' : OwnR G.toGx ι2 (fun b => Wr C ι2 (ρ.set i (.val d)) (σ.set i (some v)) b ∨ b = p) H2 d2 p := hown.mono (Snd.anti fun a z => z.imp (sub a) id) fun _ z => z
      exact q ι2 _ H2 ((A1.hide S2 A2 hp nw' ho nt).setOwn l2 nw' hown') ((S1.stp.trans setVal_stp).trans (setOwn_stp S2 hp (by rw [A1.len]; exact l2)))
/-- .. the first, the second too or not -/
theorem ss_par2o {Am : FCx → Prop} {o2 : Bool} (am : ∀ C p, Am C → Am (hideC C p)) (A : Am C) (hX : XOk G X n) (hN : X.N.Nodup) (hi : X.N[i]? = some x) (hj : X.N[j]? = some y) (hij : i ≠ j) (hx : X.env.scope.names.lookup x = some .local) (hy : X.env.scope.names.lookup y = some .local)
    (na : NoStar a) (nb : NoStar b) (ha : PE X a (tE G C .fresh ga)) (hb : ∀ C', Am C' → PE X b (tE G C' (if o2 then .fresh else .strong) gb)) (hw : swappedStores [.Tuple [.Name x px, .Name y py] kt pt] (.Tuple [a, b] k2 pt2) X.env = pure (some [x, y])) :
    PS X (.Assign [.Tuple [.Name x px, .Name y py] kt pt] (.Tuple [a, b] k2 pt2) pos) (tSt G C (parOG [i, j] [true, o2] ga gb)) := by
  have hb2 : PE X b (fun σ H Q => ∃ C', Am C' ∧ tE G C' (if o2 then .fresh else .strong) gb σ H Q) := ⟨fun pins s σ H Q I ⟨C', A', t⟩ => (hb C' A').run pins s σ H Q I t⟩
  refine psMono (ps_par hX.calm hN hi hj hij hx hy (pa_cons ha (pa_cons hb2 pa_nil (star_cons nb _ _)) (star_cons na _ _)) hw rfl) fun F σ H ⟨ρ, st, ι, R, q⟩ => ?_
  refine tE_bind (G := G) (C := C) (k := .fresh) R ?_ ?_ fun d st1 v ι1 H1 e1 R1 S1 w1 => ?_
  · intro z st1 e cls dx ι' H' R' ex
    simp only [parOG, e] at q
    exact q cls dx ρ ι' σ H' R' ex
  · intro e
    simp only [parOG, e] at q
    exact q
  by_cases io : isOwn d
  · obtain ⟨p, rfl, hp, nw, hown⟩ := w1.2 io
    obtain ⟨o, ho, nt⟩ := hown.there
    have Rh := R.hide S1 R1 hp nw ho nt
    refine ⟨hideC C p, am C p A, ?_⟩
    refine tE_bind (G := G) (C := hideC C p) (k := if o2 then .fresh else .strong) Rh ?_ ?_ fun d2 st2 w ι2 H2 e2 R2 S2 w2 => ?_
    · intro z st2 e cls dx ι' H' R' ex
      simp only [parOG, e1, Mini.Res.bind, e] at q
      exact q cls dx ρ ι' σ H' R'.unhide ex
    · intro e
      simp only [parOG, e1, Mini.Res.bind, e] at q
      exact q
    refine ⟨.ref p, w, rfl, ?_⟩
    simp only [parOG, e1, Mini.Res.bind, e2] at q
    have q : PostSt G C ρ ι σ H (Mini.nxO (Mini.setOs ρ [i, j] [true, o2] [d, d2]) st2) F := q
    rw [setOs_two] at q
    cases h1 : Mini.setO ρ i true d with
    | none => rw [h1] at q; exact q.elim
    | some ρ1 =>
      rw [h1] at q
      have q : PostSt G C ρ ι σ H (Mini.nxO (Mini.setO ρ1 j o2 d2) st2) F := q
      obtain ⟨l1, _, rfl⟩ := setO_own h1
      have ls : i < σ.length := by rw [R.len]; exact l1
      have nw2 : ¬ Wr C ι2 ρ σ p := fun z => by
        rcases z with z | z
        · exact (S2.inew p z).elim (fun z => nw (.inl z)) (by rw [ho]; simp)
        · exact nw (.inr z)
      have hown2 : OwnR G.toGx ι2 (fun b => Wr C ι2 ρ σ b ∨ b = p) H2 d p := by
        have h1 : OwnR G.toGx ι1 (Wr (hideC C p) ι1 ρ σ) H1 d p := hown.mono (Snd.anti fun a z => wr_hide.mp z) fun _ z => z
        have h2 : OwnR G.toGx ι2 (Wr (hideC C p) ι2 ρ σ) H2 d p := h1.mono S2.stp fun o' z => by
          rw [ho] at z
          cases z
          exact S2.keep p o ho (fun z => nw (.inl z)) nt.nt
        exact h2.mono (Snd.anti fun a z => wr_hide.mpr z) fun _ z => z
      have A1 := Rh.setOwn l1 nw hown
      have A2 := R2.setOwn l1 nw2 hown2
      have s1 := setOwn_stp (C := C) (ρ := ρ) (d := d) S1 hp ls
      have sub : ∀ a, Wr C ι2 (ρ.set i (.own d)) (σ.set i (some (.ref p))) a → Wr (hideC C p) ι2 ρ σ a := fun a => wr_own ls
      cases o2 with
      | false =>
        cases h2 : Mini.setO (ρ.set i (.own d)) j false d2 with
        | none => rw [h2] at q; exact q.elim
        | some ρ2 =>
          rw [h2] at q
          obtain ⟨l2, rfl⟩ := setO_val h2
          have w2 : Rp G.toGx ι2 (Wr (hideC C p) ι2 ρ σ) H2 d2 w := w2
          exact q ι2 _ H2 (A2.setVal l2 (Rp.mono (Snd.anti sub) _ _ w2)) ((s1.trans S2.stp).trans setVal_stp)
      | true =>
        cases h2 : Mini.setO (ρ.set i (.own d)) j true d2 with
        | none => rw [h2] at q; exact q.elim
        | some ρ2 =>
          rw [h2] at q
          obtain ⟨l2, io2, rfl⟩ := setO_own h2
          have w2 : ResR G.toGx .fresh H1 ι2 (Wr (hideC C p) ι2 ρ σ) H2 d2 w := w2
          obtain ⟨p2, rfl, hp2, nwp, hownp⟩ := w2.2 io2
          obtain ⟨o2, ho2, nt2⟩ := hownp.there
          have nw' : ¬ Wr C ι2 (ρ.set i (.own d)) (σ.set i (some (.ref p))) p2 := fun z => nwp (sub p2 z)
          have hown' : OwnR G.toGx ι2 (fun b => Wr C ι2 (ρ.set i (.own d)) (σ.set i (some (.ref p))) b ∨ b = p2) H2 d2 p2 := hownp.mono (Snd.anti fun a z => z.imp (sub a) id) fun _ z => z
          exact q ι2 _ H2 ((A1.hide S2 A2 hp2 nw' ho2 nt2).setOwn l2 nw' hown') (s1.trans (setOwn_stp S2 hp2 (by rw [A1.len]; exact l2)))
  · refine ⟨C, A, ?_⟩
    refine tE_bind (G := G) (C := C) (k := if o2 then .fresh else .strong) R1 ?_ ?_ fun d2 st2 w ι2 H2 e2 R2 S2 w2 => ?_
    · intro z st2 e cls dx ι' H' R' ex
      simp only [parOG, e1, Mini.Res.bind, e] at q
      exact q cls dx ρ ι' σ H' R' ex
    · intro e
      simp only [parOG, e1, Mini.Res.bind, e] at q
      exact q
    simp only [parOG, e1, Mini.Res.bind, e2] at q
    have q : PostSt G C ρ ι σ H (Mini.nxO (Mini.setOs ρ [i, j] [true, o2] [d, d2]) st2) F := q
    rw [setOs_two] at q
    cases h1 : Mini.setO ρ i true d with
    | none => rw [h1] at q; exact q.elim
    | some ρ1 => exact absurd (setO_isOwn h1) io
end
end Snd
end
section
set_option maxRecDepth 100000
set_option maxHeartbeats 4000000
/-! SndL: name = [..], the name a local on the same line. -/
namespace Snd
open PySem PySem.Spec PyProof.Rows L2
open Mini (D Sl Xc Res SRes Ex Ar Itr Stm Tgt)
section
variable {G : Gy} {C : FCx} {X : Cx} {n : Nat} {ι ι' : List Addr} {W W' : Addr → Prop} {H H' : Hp} {ρ ρ' : Mini.Env} {st st' : Mini.Store} {σ σ' : L2.St}
theorem ss_setLc {i : Nat} {o : Bool} {y : Str} {py : Pos} {elt tg iter : Expr} {ifs : List Expr} {scope : Scope} {own : List (Str × Nat)} {pos spos : Pos} {t : Tgt} {gi : EvL} {gt : EvT} {ge : Ev} (hX : XOk G X n) (hN : X.N.Nodup) (hy : X.N[i]? = some y) (hyl : X.env.scope.names.lookup y = some .local)
    (hsw : swapsWith (.ListComp elt [⟨tg, iter, ifs, 0⟩] scope pos) (some (.Name y py)) spos.line X.env = pure true) (hi : PI X tg iter (tI G C gi)) (ok : BlkOk X.N X.env.scope scope own) (hown : own.map (·.2) = Mini.slotsT t)
    (hg : ∀ (ρ : Mini.Env) (σ : L2.St) (p : Addr) (s : Shared) (H : Hp) (a : Addr) (cl : List (Str × Addr)) (fp : List Addr), PG (X.blk s H scope (compEnvC scope cl a X.env) fp) tg (tG G (blkX C ρ σ p) t))
    (ht : ∀ (ρ : Mini.Env) (σ : L2.St) (p : Addr) (s : Shared) (H : Hp) (a : Addr) (cl : List (Str × Addr)) (fp : List Addr), PTs (X.blk s H scope (compEnvC scope cl a X.env) fp) ifs (tT G (blkX C ρ σ p) gt))
    (he : ∀ (ρ : Mini.Env) (σ : L2.St) (p : Addr) (s : Shared) (H : Hp) (a : Addr) (cl : List (Str × Addr)) (fp : List Addr), PE (X.blk s H scope (compEnvC scope cl a X.env) fp) elt (tE G (blkX C ρ σ p) .strong ge))
    (hs : ∀ x, foldedSetIterable iter X.env x = pure x) : PS X (.Assign [.Name y py] (.ListComp elt [⟨tg, iter, ifs, 0⟩] scope pos) spos) (tSt G C (setG i o (lcG t gi gt ge))) := by
  refine psMono (ps_setLc (g := gB G C t) (tt := tB G C gt) (te := eB G C ge) hX.calm hN hy hyl hsw hi ok
    (fun s H a cl fp => ⟨fun pins s' σ H' v u Q I r ⟨ρ0, σ0, p, q⟩ => (hg ρ0 σ0 p s H a cl fp).run pins s' σ H' v u Q I r q⟩)
    (fun s H a cl fp => ⟨fun pins s' σ H' Q I ⟨ρ0, σ0, p, q⟩ => (ht ρ0 σ0 p s H a cl fp).run pins s' σ H' Q I q⟩)
    (fun s H a cl fp => ⟨fun pins s' σ H' Q I ⟨ρ0, σ0, p, q⟩ => (he ρ0 σ0 p s H a cl fp).run pins s' σ H' Q I q⟩) hs) fun F σ H ⟨ρ, st, ι, R, q⟩ => lc_conv hown (tE_st R q fun d st1 v ι1 H1 e1 R1 S1 w1 q1 => ?_)
  cases ho : Mini.setO ρ i o d with
  | none => rw [ho] at q1; exact q1.elim
  | some ρ1 =>
    rw [ho] at q1
    cases o with
    | false =>
      obtain ⟨hl, rfl⟩ := setO_val ho
      exact q1 ι1 _ H1 (R1.setVal hl w1.1) (S1.stp.trans setVal_stp)
    | true =>
      obtain ⟨hl, io, rfl⟩ := setO_own ho
      obtain ⟨p, rfl, hp, nw, hown⟩ := w1.2 io
      obtain ⟨o, ho', nt⟩ := hown.there
      exact q1 ι1 _ H1 ((R.hide S1 R1 hp nw ho' nt).setOwn hl nw hown) (setOwn_stp S1 hp (by rw [R.len]; exact hl))
end
end Snd
end
section
set_option maxRecDepth 100000
set_option maxHeartbeats 4000000
/-! Snd23: the reader, of statements. -/
namespace Snd
open PySem PySem.Spec PyProof.Rows L2
open Mini (D Sl Xc Res SRes Ex Ar Itr Stm Tgt Prim)

/-! ### the parts of a statement -/
def vSet1 : Stmt → Option (Str × Expr)
  | .Assign [.Name s _] e _ => some (s, e)
  | _ => none
def vSetT : Stmt → Option (Expr × Expr)
  | .Assign [.Tuple ts j p] e _ => some (.Tuple ts j p, e)
  | _ => none
def vPar2 : Stmt → Option ((Str × Nat) × (Str × Nat) × Expr × Expr)
  | .Assign [.Tuple [.Name x px, .Name y py] _ _] (.Tuple [a, b] _ _) _ => some ((x, px.line), (y, py.line), a, b)
  | _ => none
def vPar3 : Stmt → Option ((Str × Nat) × (Str × Nat) × (Str × Nat) × Expr × Expr × Expr)
  | .Assign [.Tuple [.Name x px, .Name y py, .Name z pz] _ _] (.Tuple [a, b, d] _ _) _ => some ((x, px.line), (y, py.line), (z, pz.line), a, b, d)
  | _ => none
def vApp : Stmt → Option (Str × Expr)
  | .Expr (.Call (.Attribute (.Name s _) a ap) [e] [] cp) _ => if a = "append" ∧ (ap.endLine == cp.line) = true then some (s, e) else none
  | _ => none
def vPut : Stmt → Option (Str × Expr × Expr)
  | .Assign [.Subscript (.Name s _) k _] v _ => some (s, k, v)
  | _ => none
def vExpr : Stmt → Option Expr
  | .Expr e _ => some e
  | _ => none
def vRet : Stmt → Option (Option Expr)
  | .Return e _ => some e
  | _ => none
def vIfS : Stmt → Option (Expr × List Stmt × List Stmt)
  | .If t a b _ => some (t, a, b)
  | _ => none
def vWhile : Stmt → Option (Expr × List Stmt)
  | .While t a [] _ => some (t, a)
  | _ => none
def vFor : Stmt → Option (Expr × Expr × List Stmt)
  | .For t i b [] _ => some (t, i, b)
  | _ => none
def vRaise : Stmt → Option Str
  | .Raise (some (.Call (.Name s _) [.Constant (.str _) _ _] [] _)) none _ => some s
  | _ => none
def isPass : Stmt → Bool
  | .Pass _ => true
  | _ => false
def isBrk : Stmt → Bool
  | .Break _ => true
  | _ => false
def isCnt : Stmt → Bool
  | .Continue _ => true
  | _ => false
section
variable {s : Stmt} {a b d e t : Expr} {x y z : Str}
theorem vSet1_eq (h : vSet1 s = some (x, e)) : ∃ p q, s = .Assign [.Name x p] e q := by
  unfold vSet1 at h
  split at h
  · cases h; exact ⟨_, _, rfl⟩
  · cases h
theorem vSetT_eq (h : vSetT s = some (t, e)) : ∃ ts j p q, t = .Tuple ts j p ∧ s = .Assign [.Tuple ts j p] e q := by
  unfold vSetT at h
  split at h
  · cases h; exact ⟨_, _, _, _, rfl, rfl⟩
  · cases h
theorem vPar2_eq {l1 l2 : Nat} (h : vPar2 s = some ((x, l1), (y, l2), a, b)) : ∃ px py j p j2 p2 q, px.line = l1 ∧ py.line = l2 ∧ s = .Assign [.Tuple [.Name x px, .Name y py] j p] (.Tuple [a, b] j2 p2) q := by
  unfold vPar2 at h
  split at h
  · cases h; exact ⟨_, _, _, _, _, _, _, rfl, rfl, rfl⟩
  · cases h
theorem vPar3_eq {l1 l2 l3 : Nat} (h : vPar3 s = some ((x, l1), (y, l2), (z, l3), a, b, d)) : ∃ px py pz j p j2 p2 q, px.line = l1 ∧ py.line = l2 ∧ pz.line = l3 ∧ s = .Assign [.Tuple [.Name x px, .Name y py, .Name z pz] j p] (.Tuple [a, b, d] j2 p2) q := by
  unfold vPar3 at h
  split at h
  · cases h; exact ⟨_, _, _, _, _, _, _, _, rfl, rfl, rfl, rfl⟩
  · cases h
theorem vApp_eq (h : vApp s = some (x, e)) : ∃ np ap cp q, (ap.endLine == cp.line) = true ∧ s = .Expr (.Call (.Attribute (.Name x np) "append" ap) [e] [] cp) q := by
  unfold vApp at h
  split at h
  · split at h
    · rename_i c
      obtain ⟨rfl, c⟩ := c
      cases h
      exact ⟨_, _, _, _, c, rfl⟩
    · cases h
  · cases h
theorem vPut_eq (h : vPut s = some (x, a, b)) : ∃ np sp q, s = .Assign [.Subscript (.Name x np) a sp] b q := by
  unfold vPut at h
  split at h
  · cases h; exact ⟨_, _, _, rfl⟩
  · cases h
theorem vExpr_eq (h : vExpr s = some e) : ∃ q, s = .Expr e q := by cases s <;> first | (cases h; exact ⟨_, rfl⟩) | cases h
theorem vRet_eq {o : Option Expr} (h : vRet s = some o) : ∃ q, s = .Return o q := by cases s <;> first | (cases h; exact ⟨_, rfl⟩) | cases h
theorem vIfS_eq {p q : List Stmt} (h : vIfS s = some (t, p, q)) : ∃ r, s = .If t p q r := by cases s <;> first | (cases h; exact ⟨_, rfl⟩) | cases h
theorem vWhile_eq {p : List Stmt} (h : vWhile s = some (t, p)) : ∃ r, s = .While t p [] r := by
  unfold vWhile at h
  split at h
  · cases h; exact ⟨_, rfl⟩
  · cases h
theorem vFor_eq {p : List Stmt} (h : vFor s = some (t, e, p)) : ∃ r, s = .For t e p [] r := by
  unfold vFor at h
  split at h
  · cases h; exact ⟨_, rfl⟩
  · cases h
theorem vRaise_eq (h : vRaise s = some x) : ∃ p m j p2 q r, s = .Raise (some (.Call (.Name x p) [.Constant (.str m) j p2] [] q)) none r := by
  unfold vRaise at h
  split at h
  · cases h; exact ⟨_, _, _, _, _, _, rfl⟩
  · cases h
end
/-! ### swapped stores -/
/-- the stores are not swapped -/
def noSwapB (t e : Expr) : Bool := match vTup t with
  | none => false
  | some ts => match vTup e with
    | none => true
    | some vs => !(ts.length == 2 || ts.length == 3) || vs.all (foldedForSure 8)
theorem swap_two {env : Env} {x y : Str} {px py pt pt2 : Pos} {j j2 : Nat} {a b : Expr} (hk : env.scope.kind = .function) (hx : env.scope.names.lookup x = some .local) (hy : env.scope.names.lookup y = some .local) (hl : px.line = py.line) (hxy : x ≠ y)
    (na : noStarB a = true) (nb : noStarB b = true) (hf : (foldedForSure 8 a && foldedForSure 8 b) = false) (hc : (constantsAlone 8 a && constantsAlone 8 b) = false) :
    swappedStores [.Tuple [.Name x px, .Name y py] j pt] (.Tuple [a, b] j2 pt2) env = pure (some [x, y]) := by
  have kx : env.kindOf x = some .local := hx
  have ky := show env.kindOf y = some .local from hy
  have bk : env.blockKind = .function := by simp [Env.blockKind, hk]
  have hp : (Expr.Name x px).pos = px := rfl
  have hd : [x, y].eraseDups = [x, y] := by
    have : (y == x) = false := beq_eq_false_iff_ne.mpr (Ne.symm hxy)
    simp [List.eraseDups_cons, this]
  unfold swappedStores
  simp [bk, hf, hc, List.filterMap_cons, kx, ky, hp, hl, hd]
  refine fun z => ?_
  rcases z with z | z
  · cases a <;> first | (cases z; done) | cases na
  · cases b <;> first | (cases z; done) | cases nb
theorem swap_three {env : Env} {x y z : Str} {px py pz pt pt2 : Pos} {j j2 : Nat} {a b d : Expr} (hk : env.scope.kind = .function) (hx : env.scope.names.lookup x = some .local) (hy : env.scope.names.lookup y = some .local) (hz : env.scope.names.lookup z = some .local)
    (hl : px.line = py.line) (hl2 : px.line = pz.line) (hxy : x ≠ y) (hxz : x ≠ z) (hyz : y ≠ z)
    (na : noStarB a = true) (nb : noStarB b = true) (nd : noStarB d = true) (hf : (foldedForSure 8 a && (foldedForSure 8 b && foldedForSure 8 d)) = false) (hc : (constantsAlone 8 a && (constantsAlone 8 b && constantsAlone 8 d)) = false) :
    swappedStores [.Tuple [.Name x px, .Name y py, .Name z pz] j pt] (.Tuple [a, b, d] j2 pt2) env = pure (some [x, y, z]) := by
  have kx : env.kindOf x = some .local := hx
  have ky := show env.kindOf y = some .local from hy
  have kz : env.kindOf z = some .local := hz
  have bk : env.blockKind = .function := by simp [Env.blockKind, hk]
  have hp : (Expr.Name x px).pos = px := rfl
  have hd : [x, y, z].eraseDups = [x, y, z] := by
    simp [List.eraseDups_cons, beq_eq_false_iff_ne.mpr hxy.symm, beq_eq_false_iff_ne.mpr hxz.symm, beq_eq_false_iff_ne.mpr hyz.symm]
  have e1 : (if py.line = px.line then some y else none) = some y := if_pos hl.symm
  have e2 : (if pz.line = px.line then some z else none) = some z := if_pos hl2.symm
  unfold swappedStores
  simp [bk, hf, hc, List.filterMap_cons, kx, ky, kz, hp, e1, e2, hd]
  refine fun z => ?_
  rcases z with z | z | z
  · cases a <;> first | (cases z; done) | cases na
  · cases b <;> first | (cases z; done) | cases nb
  · cases d <;> first | (cases z; done) | cases nd
theorem swap_fold {env : Env} {ts vs : List Expr} {j j2 : Nat} {p p2 : Pos} (h : vs.all (foldedForSure 8) = true) : swappedStores [.Tuple ts j p] (.Tuple vs j2 p2) env = pure none := by
  unfold swappedStores
  simp [h]
theorem swap_len {env : Env} {ts vs : List Expr} {j j2 : Nat} {p p2 : Pos} (h : (!(ts.length == 2 || ts.length == 3)) = true) : swappedStores [.Tuple ts j p] (.Tuple vs j2 p2) env = pure none := by
  unfold swappedStores
  dsimp only
  rw [h]
  rfl
theorem swap_notup {env : Env} {t e : Expr} (h : ∀ es j p, e ≠ .Tuple es j p) : swappedStores [t] e env = pure none := by
  unfold swappedStores
  cases e <;> first | (exact absurd rfl (h _ _ _)) | (cases t <;> rfl)
theorem swap_notup2 {env : Env} {t e : Expr} (h : ∀ es j p, t ≠ .Tuple es j p) (h2 : ∀ es p, t ≠ .List es p) : swappedStores [t] e env = pure none := by
  unfold swappedStores
  cases t <;> first | (exact absurd rfl (h _ _ _)) | (exact absurd rfl (h2 _ _)) | (cases e <;> rfl)
theorem swap_none {env : Env} {t e : Expr} (h : noSwapB t e = true) : swappedStores [t] e env = pure none := by
  unfold noSwapB at h
  split at h
  · cases h
  · rename_i ts ht
    obtain ⟨j, p, rfl⟩ := vTup_eq ht
    split at h
    · rename_i he
      exact swap_notup fun es j p z => by subst z; cases he
    · rename_i vs he
      obtain ⟨j2, p2, rfl⟩ := vTup_eq he
      rcases Bool.or_eq_true_iff.1 h with h | h
      · exact swap_len h
      · exact swap_fold h
theorem noComp_sw {e : Expr} (h : noCompB e = true) (t : Option Expr) (l : Nat) (env : Env) : swapsWith e t l env = pure false := by
  cases e <;> first | rfl | cases h

theorem noComp_sole {e : Expr} (h : noCompB e = true) (t : Expr) (l : Nat) (env : Env) : swapsWithSole [t] e l env = pure false := noComp_sw h (some t) l env
theorem noStarB_of {e : Expr} (h : NoStar e) : noStarB e = true := by cases e <;> first | rfl | exact absurd rfl (h _ _)
/-! ### the reader -/
def locB (c : Sc) (s : Str) : Bool := decide (c.sc.names.lookup s = some .local)
/-- a statement that lays a token out -/
def upB : Stmt → Bool
  | .Assign [.Name _ _] (.Subscript _ (.Slice (some (.UnaryOp .USub (.Constant (.int _) _ _) _)) _ _ _) _) _ => true
  | _ => false
theorem upB_up {s : Stmt} (h : upB s = true) (env : Env) : Up (exec s env) := by
  unfold upB at h
  split at h
  · exact up_set
  · cases h
/-- return f(e, x.replace(sign, '')) -/
def mRep (K : CK) (c : Sc) : Stm → Stmt → Bool
  | .ret (.call f [.e a, .e (.meth .replace (.var j) [.con (.str [k]), .con (.str [])])]), s => andO (vRet s) fun o => (match o with
    | some q => andO (vCall q) fun r => glB c r.1 && decide (K.gi.lookup r.1 = some (.fn f 2)) && andO (two' r.2) fun z => mA K (.e a) c z.1 && noStarB z.1 && andO (vRep z.2) fun t => nameB c j t.1 && decide (t.2.1 = sS [k]) && decide (t.2.2 = sS [])
    | none => false)
  | _, _ => false
/-- name = [..] -/
def vSetL : Stmt → Option (Str × Nat × Nat × Scope × Expr)
  | .Assign [.Name s p] (.ListComp e gs sc pos) _ => some (s, p.line, pos.line, sc, .ListComp e gs sc pos)
  | _ => none
theorem vSetL_eq {s : Stmt} {x : Str} {l1 l2 : Nat} {sc : Scope} {t : Expr} (h : vSetL s = some (x, l1, l2, sc, t)) : ∃ p e gs pos q, p.line = l1 ∧ pos.line = l2 ∧ t = .ListComp e gs sc pos ∧ s = .Assign [.Name x p] t q := by
  unfold vSetL at h
  split at h
  · cases h; exact ⟨_, _, _, _, _, rfl, rfl, rfl, rfl⟩
  · cases h
def mSetL (K : CK) (c : Sc) (i : Nat) : Ex → Stmt → Bool
  | .lc elt t it ifs, s => andO (vSetL s) fun q => decide (c.N[i]? = some q.1) && locB c q.1 && decide (q.2.1 = q.2.2.1) && !(q.2.2.2.1.names.any fun y => y.1 == q.1 && (y.2 == .local || y.2 == .cell)) && mE K (.lc elt t it ifs) c q.2.2.2.2
  | _, _ => false
/-- what a name of one's own, or another, may be given -/
def kOk (o : Bool) (e : Ex) : Bool := if o then decide (kd e = .fresh) else firm e
def mPar (K : CK) (c : Sc) (a b : Expr) : List Bool → List Ex → Bool
  | [o1, o2], [x, y] => mE K x c a && noStarB a && kOk o1 x && mE K y c b && noStarB b && kOk o2 y
  | _, _ => false
mutual
def mS (K : CK) (c : Sc) : Stm → Stmt → Bool
  | .set i o e, s => (andO (vSet1 s) fun q => tgtB c i q.1 && noCompB q.2 && mE K e c q.2 && (if o then decide (kd e = .fresh) else firm e)) || mSetL K c i e s
  | .setT t e, s => andO (vSetT s) fun q => mG c t q.1 && noCompB q.2 && noSwapB q.1 q.2 && mE K e c q.2 && firm e
  | .par is os es, s => (match is with
    | [i, j] => andO (vPar2 s) fun q => decide (c.N[i]? = some q.1.1) && decide (c.N[j]? = some q.2.1.1) && decide (i ≠ j) && decide (q.1.1 ≠ q.2.1.1) && decide (q.1.2 = q.2.1.2) && locB c q.1.1 && locB c q.2.1.1 && !(foldedForSure 8 q.2.2.1 && foldedForSure 8 q.2.2.2) && !(constantsAlone 8 q.2.2.1 && constantsAlone 8 q.2.2.2) &&
        mPar K c q.2.2.1 q.2.2.2 os es
    | [i, j, l] => andO (vPar3 s) fun q => decide (c.N[i]? = some q.1.1) && decide (c.N[j]? = some q.2.1.1) && decide (c.N[l]? = some q.2.2.1.1) && decide (i ≠ j) && decide (i ≠ l) && decide (j ≠ l) && decide (q.1.1 ≠ q.2.1.1) && decide (q.1.1 ≠ q.2.2.1.1) && decide (q.2.1.1 ≠ q.2.2.1.1) &&
        decide (q.1.2 = q.2.1.2) && decide (q.1.2 = q.2.2.1.2) && locB c q.1.1 && locB c q.2.1.1 && locB c q.2.2.1.1 &&
        !(foldedForSure 8 q.2.2.2.1 && (foldedForSure 8 q.2.2.2.2.1 && foldedForSure 8 q.2.2.2.2.2)) && !(constantsAlone 8 q.2.2.2.1 && (constantsAlone 8 q.2.2.2.2.1 && constantsAlone 8 q.2.2.2.2.2)) &&
        decide (os = [false, false, false]) && mEs K es c [q.2.2.2.1, q.2.2.2.2.1, q.2.2.2.2.2]
    | _ => false)
  | .append i e, s => andO (vApp s) fun q => nameB c i q.1 && noStarB q.2 && mE K e c q.2 && firm e
  | .setIdx i k v, s => andO (vPut s) fun q => nameB c i q.1 && plainIxB q.2.1 && noCompB q.2.2 && mE K k c q.2.1 && mE K v c q.2.2 && firm v
  | .expr e, s => andO (vExpr s) fun q => noCompB q && mE K e c q
  | .ret e, s => andO (vRet s) fun o => (match o with
    | some q => mE K e c q && firm e
    | none => (match e with
      | .con .non => true
      | _ => false))
  | .ite t a b, s => andO (vIfS s) fun q => mE K t c q.1 && mB K c a q.2.1 && mB K c b q.2.2
  | .while t b, s => andO (vWhile s) fun q => mE K t c q.1 && mB K c b q.2
  | .for t it b, s => andO (vFor s) fun q => mG c t q.1 && noSetB q.2.1 && mIt K it c q.1 q.2.1 && mB K c b q.2.2
  | .brk, s => isBrk s
  | .cnt, s => isCnt s
  | .pass, s => isPass s
  | .raise x, s => andO (vRaise s) fun q => glB c q && decide (K.gi.lookup q = some (.exc x))
  | _, _ => false
def mB (K : CK) (c : Sc) : List Stm → List Stmt → Bool
  | [], ss => ss.isEmpty
  | m :: ms, ss => (match m with
    | .freeze _ => mB K c ms ss
    | _ => (match ss with
      | s :: ss => mS K c m s && (mB K c ms ss || (upB s && mTB K c ms ss))
      | [] => false))
/-- .. where a token is out -/
def mTI (K : CK) (c : Sc) : Stm → Stmt → Bool
  | .ite t a b, s => andO (vIfS s) fun q => mE K t c q.1 && mTB K c a q.2.1 && mTB K c b q.2.2
  | _, _ => false
def mTB (K : CK) (c : Sc) : List Stm → List Stmt → Bool
  | [], ss => ss.isEmpty
  | m :: ms, s :: ss => (mS K c m s || mRep K c m s || mTI K c m s) && mTB K c ms ss
  | _, _ => false
end

/-- .. of statements -/
structure AmbS (G : Gy) (c : Sc) (X : Cx) (C : FCx) (m : Nat) : Prop extends AmbE G c X C m where
  po : PassesOwn (model X.prog X.w) X.A X.env X.xe
  tk : L2N.Takes X (fun cls d _ H => C.EE cls d H)
  hid : ∀ a, ¬ C.hid a
  fr : c.frame = true
  kind : Scope.kind X.env.scope = .function
/-- the errors' classes -/
def GloX (G : Gy) (K : CK) : Prop := ∀ s x, K.gi.lookup s = some (.exc x) → ∃ (B newId initId : String) (bmB : List Value), ExcBaseFacts B newId initId bmB ∧ PySem.W.excIn G.K (G.ex x) bmB newId = true ∧ G.mg s = some (.ref (G.ex x)) ∧ PySem.W.keepIn G.K (.ref (G.ex x)) = true ∧
  PySem.W.subIn G.K (.ref (G.ex x)) (.type "BaseException") = some true ∧ PySem.W.typeIn G.K (.ref (G.ex x)) = some (.type "type")
section
variable {G : Gy} {K : CK} {c : Sc} {X : Cx} {C : FCx} {m : Nat}
theorem loc_of (A : AmbS G c X C m) {s : Str} (h : locB c s = true) : X.env.scope.names.lookup s = some .local := by
  rw [A.sc]
  exact of_decide_eq_true h
theorem par_two {gl : List D} {cf : Mini.CallF} {wf i j : Nat} {os : List Bool} {x y : Ex} : Mini.evS gl cf wf (.par [i, j] os [x, y]) = parOG [i, j] os (Mini.evE gl cf x) (Mini.evE gl cf y) := by
  funext ρ st
  rw [Mini.evS]
  have two : Mini.evEs gl cf [x, y] ρ st = (Mini.evE gl cf x ρ st).bind fun d st1 => (Mini.evE gl cf y ρ st1).bind fun e st2 => .ok [d, e] st2 := by
    have e1 : Mini.evEs gl cf [x, y] ρ st = (Mini.evE gl cf x ρ st).bind fun d st1 => (((Mini.evE gl cf y ρ st1).bind fun e st2 => ((Res.ok [] st2).bind fun ds st3 => .ok (e :: ds) st3)).bind fun ds st4 => .ok (d :: ds) st4) := rfl
    rw [e1]
    congr 1
    funext d st1
    cases Mini.evE gl cf y ρ st1 <;> rfl
  rw [two] <;> rfl
theorem kOk_of {o : Bool} {e : Ex} {t : Expr} {g : Ev} {C : FCx} (h : kOk o e = true) (p : PE X t (tE G C (kd e) g)) : PE X t (tE G C (if o then .fresh else .strong) g) := by
  cases o with
  | true =>
    have h : kd e = .fresh := of_decide_eq_true h
    rw [h] at p
    exact p
  | false => exact firm_of h p
theorem so_par2 {es : List Ex} {os : List Bool} {i j k1 k2 : Nat} {x y : Str} {a b : Expr} {px py p1 p2 q : Pos} (g : Glo G K m) (A : AmbS G c X C m) (h1 : c.N[i]? = some x) (h2 : c.N[j]? = some y) (h3 : i ≠ j) (h4 : x ≠ y) (h5 : px.line = py.line) (h6 : locB c x = true) (h7 : locB c y = true)
    (h8 : (foldedForSure 8 a && foldedForSure 8 b) = false) (h9 : (constantsAlone 8 a && constantsAlone 8 b) = false) (h10 : mPar K c a b os es = true) :
    PS X (.Assign [.Tuple [.Name x px, .Name y py] k1 p1] (.Tuple [a, b] k2 p2) q) (tSt G C (Mini.evS G.prog.globs (cfN G m) G.wf (.par [i, j] os es))) := by
  unfold mPar at h10
  split at h10
  · rename_i o1 o2 u v
    simp only [and_tt] at h10
    obtain ⟨⟨⟨⟨⟨ma, na⟩, ka⟩, mb⟩, nb⟩, kb⟩ := h10
    have sw := swap_two (j := k1) (j2 := k2) (pt := p1) (pt2 := p2) A.kind (loc_of A h6) (loc_of A h7) h5 h4 na nb h8 h9
    have pa := kOk_of ka (soE g u c a ma X C A.toAmbE).1
    have pb : ∀ C', AmbE G c X C' m → PE X b (tE G C' (if o2 then .fresh else .strong) (Mini.evE G.prog.globs (cfN G m) v)) := fun C' A' => kOk_of kb (soE g v c b mb X C' A').1
    have e1 : X.N[i]? = some x := by rw [A.N]; exact h1
    have e2 : X.N[j]? = some y := by rw [A.N]; exact h2
    have nd : X.N.Nodup := by rw [A.N]; exact A.nd
    cases o1 with
    | true =>
      rw [par_two]
      exact ss_par2o (Am := fun C' => AmbE G c X C' m) (fun C' p A' => ⟨A'.x, A'.N, A'.nd, A'.sc, A'.fn, A'.ps, A'.clo, A'.tab⟩) A.toAmbE A.x nd e1 e2 h3 (loc_of A h6) (loc_of A h7) (noStar_of na) (noStar_of nb) pa pb sw
    | false =>
      cases o2 with
      | true =>
        rw [par_two]
        exact ss_par2v A.x nd e1 e2 h3 (loc_of A h6) (loc_of A h7) (noStar_of na) (noStar_of nb) pa (pb C A.toAmbE) sw
      | false => exact ss_par2 A.x nd e1 e2 h3 (loc_of A h6) (loc_of A h7) (sa_cons (noStar_of na) pa (sa_cons (noStar_of nb) (pb C A.toAmbE) sa_nil)) sw
  · cases h10
theorem so_setL {e : Ex} {s : Stmt} {i : Nat} {o : Bool} (g : Glo G K m) (A : AmbS G c X C m) (h : mSetL K c i e s = true) : PS X s (tSt G C (Mini.evS G.prog.globs (cfN G m) G.wf (.set i o e))) := by
  unfold mSetL at h
  split at h
  · rename_i elt t it ifs
    replace h := andO_eq h
    obtain ⟨⟨x, l1, l2, sc, t'⟩, hs, h⟩ := h
    obtain ⟨p, e', gs, pos, q, rfl, rfl, rfl, rfl⟩ := vSetL_eq hs
    simp only [Bool.and_eq_true, decide_eq_true_eq, Bool.not_eq_true'] at h
    obtain ⟨⟨⟨⟨h1, h2⟩, h3⟩, h4⟩, h⟩ := h
    rw [mE] at h
    replace h := andO_eq h
    obtain ⟨⟨eelt, tg, iter, eifs, scope⟩, hs, h⟩ := h
    simp only [and_tt] at h
    rcases h with ⟨⟨⟨⟨⟨⟨b1, b2⟩, b3⟩, b4⟩, b5⟩, b6⟩, b7⟩
    obtain ⟨p', he⟩ := vLc_eq hs
    cases he
    have ok : BlkOk X.N X.env.scope sc (ownT c.N t) := by rw [A.N, A.sc]; exact blkOk_by b1
    have own : (ownT c.N t).map (·.2) = Mini.slotsT t := by
      unfold ownT
      rw [List.map_map]
      exact List.map_id _
    have key := ss_setLc (o := o) (spos := q) A.x (by rw [A.N]; exact A.nd) (by rw [A.N]; exact h1) (loc_of A h2) (sw_true A.kind (loc_of A h2) (beq_iff_eq.mpr h3) h4) (soIt g it c _ _ b3 X C A.toAmbE) ok own
      (fun ρ σ p s H a cl fp => soG (A.toAmbE.blk sc ρ σ p s H a cl fp) t _ b4)
      (fun ρ σ p s H a cl fp => soF g ifs _ _ b7 _ _ (A.toAmbE.blk sc ρ σ p s H a cl fp))
      (fun ρ σ p s H a cl fp => firm_of b6 (soE g elt _ _ b5 _ _ (A.toAmbE.blk sc ρ σ p s H a cl fp)).1) (fun x => noFold_of b2 _ x)
    refine psMono key fun F σ H ⟨ρ, st, ι, R, q⟩ => ⟨ρ, st, ι, R, ?_⟩
    rw [Mini.evS] at q
    exact q
  · cases h
theorem put_assign {x : Str} {np sp : Pos} {k : Expr} (h : plainIxB k = true) (env : Env) : ∀ v, assign (.Subscript (.Name x np) k sp) env v = (do let ov ← holding [v] (eval (.Name x np) env); let iv ← holding [v, ov] (eval k env); standAt sp; holding [v, ov, iv] (setItem ov iv v); release [v, ov, iv] []) := by
  intro v
  cases k <;> first | rfl | cases h
/-- the two arguments: a value; a text without a sign -/
def repG (ga : Ev) (j k : Nat) : EvS := fun ρ st => ((ga ρ st).bind fun d st1 => .ok (Sl.val d) st1).bind fun x st1 => ((((Mini.lift (Mini.varD ρ j) st1).bind fun b st2 => Mini.lift (Mini.repD b (.str [k]) (.str [])) st2).bind fun d st3 => .ok (Sl.val d) st3).bind fun y st3 => (Res.ok [] st3).bind fun ys st4 => .ok (y :: ys) st4).bind fun ys st4 => .ok (x :: ys) st4
theorem repG_two {ga : Ev} {j k : Nat} {ρ : Mini.Env} {st st1 : Mini.Store} {ss : List Sl} (w : repG ga j k ρ st = .ok ss st1) : ss.length = 2 := by
  unfold repG at w
  cases e1 : ga ρ st with
  | raise x st2 => rw [e1] at w; cases w
  | stuck => rw [e1] at w; cases w
  | ok d st2 =>
    rw [e1] at w
    simp only [bind_ok] at w
    cases hv : Mini.varD ρ j with
    | none => rw [hv] at w; cases w
    | some b =>
      rw [hv] at w
      cases hr : Mini.repD b (.str [k]) (.str []) with
      | none =>
        have w : ((((Mini.lift (Mini.repD b (.str [k]) (.str [])) st2).bind fun d st3 => .ok (Sl.val d) st3).bind fun y st3 => (Res.ok [] st3).bind fun ys st4 => .ok (y :: ys) st4).bind fun ys st4 => .ok (Sl.val d :: ys) st4) = .ok ss st1 := w
        rw [hr] at w
        cases w
      | some e =>
        have w : ((((Mini.lift (Mini.repD b (.str [k]) (.str [])) st2).bind fun d st3 => .ok (Sl.val d) st3).bind fun y st3 => (Res.ok [] st3).bind fun ys st4 => .ok (y :: ys) st4).bind fun ys st4 => .ok (Sl.val d :: ys) st4) = .ok ss st1 := w
        rw [hr] at w
        cases w
        rfl
theorem rep_ev {gl : List D} {cf : Mini.CallF} {wf f j k : Nat} {a : Ex} {ρ : Mini.Env} {st : Mini.Store} : Mini.evS gl cf wf (.ret (.call f [.e a, .e (.meth .replace (.var j) [.con (.str [k]), .con (.str [])])])) ρ st = ((repG (Mini.evE gl cf a) j k ρ st).bind fun ss st5 => cf f ss st5).toS fun d st6 => .ret d st6 := rfl
theorem so_rep (g : Glo G K m) (c : Sc) {x : Stm} {s : Stmt} (h : mRep K c x s = true) (X : Cx) (C : FCx) (A : AmbS G c X C m) : PST X s (tSt G C (Mini.evS G.prog.globs (cfN G m) G.wf x)) := by
  unfold mRep at h
  split at h
  · rename_i f a j k
    replace h := andO_eq h
    obtain ⟨o, hs, h⟩ := h
    obtain ⟨r, rfl⟩ := vRet_eq hs
    cases o with
    | none => cases h
    | some q =>
      have h := andO_eq h
      obtain ⟨⟨x, es⟩, hs2, h⟩ := h
      simp only [and_tt, decide_eq_true_eq] at h
      obtain ⟨⟨h1, h2⟩, h⟩ := h
      replace h := andO_eq h
      obtain ⟨⟨ea, er⟩, ht, h⟩ := h
      simp only [and_tt] at h
      obtain ⟨⟨h3, h4⟩, h⟩ := h
      replace h := andO_eq h
      obtain ⟨⟨n, y, z⟩, hr, h⟩ := h
      simp only [and_tt, decide_eq_true_eq] at h
      obtain ⟨⟨h5, rfl⟩, rfl⟩ := h
      obtain ⟨p, q, rfl⟩ := vCall_eq hs2
      cases two_eq ht
      obtain ⟨p1, p2, j1, c1, j2, c2, p3, rfl, hl⟩ := vRep_eq hr
      obtain ⟨k1, k2, k3⟩ := glB_eq A.toAmbE h1
      obtain ⟨n1, n2, n3, n4⟩ := nameB_eq A.toAmbE h5
      obtain ⟨fd, ps, m1, m2, m3, m4⟩ := g.fn x f 2 h2
      have F : FnC X.prog X.w X.K X.mg X.base (L2N.CX X.prog X.w) m (G.fa f) fd ps (SpC G (cfN G m f) 2) := by
        rw [A.x.p, A.x.w, A.x.k, A.x.mg, A.x.base]; exact m4
      have mg : X.mg x = some (.ref (G.fa f)) := by rw [A.x.mg]; exact m1
      have kp : PySem.W.keepIn X.K (.ref (G.fa f)) = true := by rw [A.x.k]; exact m2
      have bd : Binds X.K fd ps [] := by rw [A.x.k]; exact m3
      have sa : noStarB (Expr.Call (.Attribute (.Name n p1) "replace" p2) [.Constant (.str (sS [k])) j1 c1, .Constant (.str (sS [])) j2 c2] [] p3) = true := rfl
      unfold mA at h3
      simp only [and_tt] at h3
      have a1 := s1_val (firm_of h3.2 (soE g a c ea h3.1 X C A.toAmbE).1)
      have a2 := sat_val (pet_strong (set_rep (o := .Name n p1) (c := k) (j1 := j1) (j2 := j2) (c1 := c1) (c2 := c2) rfl hl (se_var (G := G) (C := C) (pe_var n1 n2 n3 n4))))
      have args := sat_cons (noStar_of h4) (CwR.PET.of a1) (sat_cons (noStar_of sa) a2 sat_nil)
      obtain ⟨y1, y2, y3, y4⟩ := A.clo A.fr
      refine fun pins s σ H D h0 I z => stt_ret (g := fun ρ st => (repG (Mini.evE G.prog.globs (cfN G m) a) j k ρ st).bind fun ss st5 => cfN G m f ss st5)
        (fun pins s σ H Q h0 I z => se_call_at (gs := repG (Mini.evE G.prog.globs (cfN G m) a) j k) F A.x.room k1 mg kp bd A.ps k2 ?_ (fun ρ st ss st1 w => ⟨repG_two w, hands_of y1 y2 y3 (A.fn A.fr) y4⟩) I z fun Q' z' => args q pins s σ H Q' h0 I z') pins s σ H D h0 I ?_
      · intro e' he
        rcases List.mem_cons.mp he with rfl | he
        · exact noStar_of h4
        · rw [List.mem_singleton.mp he]; exact noStar_of sa
      · obtain ⟨ρ, st, ι, R, q⟩ := z
        exact ⟨ρ, st, ι, R, by rw [rep_ev] at q; exact q⟩
  · cases h
mutual
theorem soS (g : Glo G K m) (gx : GloX G K) : ∀ (x : Stm) (c : Sc) (s : Stmt), mS K c x s = true → ∀ (X : Cx) (C : FCx), AmbS G c X C m → PS X s (tSt G C (Mini.evS G.prog.globs (cfN G m) G.wf x))
  | .set i o e, c, s, h, X, C, A => by
    unfold mS at h
    rcases Bool.or_eq_true_iff.mp h with h | h
    · replace h := andO_eq h
      obtain ⟨⟨n, q⟩, hs, h⟩ := h
      simp only [and_tt] at h
      rcases h with ⟨⟨⟨h1, h2⟩, h3⟩, h4⟩
      obtain ⟨p, r, rfl⟩ := vSet1_eq hs
      obtain ⟨t1, t2, t3⟩ := tgtB_eq A.toAmbE h1
      have i1 := (soE g e c q h3 X C A.toAmbE).1
      cases o with
      | true =>
        have h4 : kd e = .fresh := of_decide_eq_true h4
        rw [h4] at i1
        exact ss_setOwn (by rw [A.N]; exact A.nd) t1 t2 i1 (noComp_sw h2 _ _ _) t3
      | false => exact ss_set (by rw [A.N]; exact A.nd) t1 t2 (firm_of h4 i1) (noComp_sw h2 _ _ _) t3
    · exact so_setL g A h
  | .setT t e, c, s, h, X, C, A => by
    unfold mS at h
    replace h := andO_eq h
    obtain ⟨⟨tg, q⟩, hs, h⟩ := h
    simp only [and_tt] at h
    rcases h with ⟨⟨⟨⟨h1, h2⟩, h3⟩, h4⟩, h5⟩
    obtain ⟨ts, j, p, r, rfl, rfl⟩ := vSetT_eq hs
    exact ss_setT (soG A.toAmbE t _ h1) (firm_of h5 (soE g e c q h4 X C A.toAmbE).1) noStar_tup (noComp_sole h2 _ _ _) (swap_none h3)
  | .par is os es, c, s, h, X, C, A => by
    unfold mS at h
    split at h
    · rename_i i j
      replace h := andO_eq h
      obtain ⟨⟨⟨x, l1⟩, ⟨y, l2⟩, a, b⟩, hs, h⟩ := h
      simp only [Bool.and_eq_true, decide_eq_true_eq, Bool.not_eq_true'] at h
      obtain ⟨⟨⟨⟨⟨⟨⟨⟨⟨h1, h2⟩, h3⟩, h4⟩, h5⟩, h6⟩, h7⟩, h8⟩, h9⟩, h10⟩ := h
      obtain ⟨px, py, j1, p1, j2, p2, q, rfl, rfl, rfl⟩ := vPar2_eq hs
      exact so_par2 g A h1 h2 h3 h4 h5 h6 h7 h8 h9 h10
    · rename_i i j l
      replace h := andO_eq h
      obtain ⟨⟨⟨x, l1⟩, ⟨y, l2⟩, ⟨z, l3⟩, a, b, d⟩, hs, h⟩ := h
      simp only [Bool.and_eq_true, decide_eq_true_eq, Bool.not_eq_true'] at h
      obtain ⟨⟨⟨⟨⟨⟨⟨⟨⟨⟨⟨⟨⟨⟨⟨⟨⟨h1, h2⟩, h3⟩, n1⟩, n2⟩, n3⟩, x1⟩, x2⟩, x3⟩, e1⟩, e2⟩, h6⟩, h7⟩, h7'⟩, h8⟩, h9⟩, rfl⟩, h10⟩ := h
      obtain ⟨px, py, pz, j1, p1, j2, p2, q, rfl, rfl, rfl, rfl⟩ := vPar3_eq hs
      obtain ⟨i1, i2⟩ := soEs g es c [a, b, d] h10 X C A.toAmbE
      have na : noStarB a = true := noStarB_of (i2 a (by simp))
      have nb : noStarB b = true := noStarB_of (i2 b (by simp))
      have nd : noStarB d = true := noStarB_of (i2 d (by simp))
      exact ss_par3 A.x (by rw [A.N]; exact A.nd) (by rw [A.N]; exact h1) (by rw [A.N]; exact h2) (by rw [A.N]; exact h3) n1 n2 n3 (loc_of A h6) (loc_of A h7) (loc_of A h7') i1
        (swap_three A.kind (loc_of A h6) (loc_of A h7) (loc_of A h7') e1 e2 x1 x2 x3 na nb nd h8 h9)
    · cases h
  | .append i e, c, s, h, X, C, A => by
    unfold mS at h
    replace h := andO_eq h
    obtain ⟨⟨n, q⟩, hs, h⟩ := h
    simp only [and_tt] at h
    rcases h with ⟨⟨⟨h1, h2⟩, h3⟩, h4⟩
    obtain ⟨np, ap, cp, r, hl, rfl⟩ := vApp_eq hs
    obtain ⟨k1, k2, k3, k4⟩ := nameB_eq A.toAmbE h1
    exact ss_append A.x k1 k2 k3 k4 (noStar_of h2) (firm_of h4 (soE g e c q h3 X C A.toAmbE).1) hl
  | .setIdx i k v, c, s, h, X, C, A => by
    unfold mS at h
    replace h := andO_eq h
    obtain ⟨⟨n, ek, ev⟩, hs, h⟩ := h
    simp only [and_tt] at h
    rcases h with ⟨⟨⟨⟨⟨h1, h2⟩, h3⟩, h4⟩, h5⟩, h6⟩
    obtain ⟨np, sp, q, rfl⟩ := vPut_eq hs
    obtain ⟨k1, k2, k3, k4⟩ := nameB_eq A.toAmbE h1
    exact ss_put A.x k1 k2 k3 k4 (soE g k c ek h4 X C A.toAmbE).1 (firm_of h6 (soE g v c ev h5 X C A.toAmbE).1) (noComp_sole h3 _ _ _) (put_assign h2 _)
  | .expr e, c, s, h, X, C, A => by
    unfold mS at h
    replace h := andO_eq h
    obtain ⟨q, hs, h⟩ := h
    simp only [and_tt] at h
    obtain ⟨r, rfl⟩ := vExpr_eq hs
    exact ss_expr (soE g e c q h.2 X C A.toAmbE).1 (noComp_sw h.1 _ _ _)
  | .ret e, c, s, h, X, C, A => by
    unfold mS at h
    replace h := andO_eq h
    obtain ⟨o, hs, h⟩ := h
    obtain ⟨r, rfl⟩ := vRet_eq hs
    cases o with
    | some q =>
      have h : (mE K e c q && firm e) = true := h
      simp only [and_tt] at h
      exact ss_ret (firm_of h.2 (soE g e c q h.1 X C A.toAmbE).1)
    | none =>
      dsimp only at h
      split at h
      · exact ss_retN
      · cases h
  | .ite t a b, c, s, h, X, C, A => by
    unfold mS at h
    replace h := andO_eq h
    obtain ⟨⟨et, ea, eb⟩, hs, h⟩ := h
    simp only [and_tt] at h
    rcases h with ⟨⟨h1, h2⟩, h3⟩
    obtain ⟨r, rfl⟩ := vIfS_eq hs
    exact ss_if (soE g t c et h1 X C A.toAmbE).2 (soB g gx a c ea h2 X C A) (soB g gx b c eb h3 X C A)
  | .while t b, c, s, h, X, C, A => by
    unfold mS at h
    replace h := andO_eq h
    obtain ⟨⟨et, eb⟩, hs, h⟩ := h
    simp only [and_tt] at h
    obtain ⟨r, rfl⟩ := vWhile_eq hs
    exact ss_while A.po (soE g t c et h.1 X C A.toAmbE).2 (soB g gx b c eb h.2 X C A)
  | .for t it b, c, s, h, X, C, A => by
    unfold mS at h
    replace h := andO_eq h
    obtain ⟨⟨et, ei, eb⟩, hs, h⟩ := h
    simp only [and_tt] at h
    rcases h with ⟨⟨⟨h1, h2⟩, h3⟩, h4⟩
    obtain ⟨r, rfl⟩ := vFor_eq hs
    exact ss_for A.x A.po (soIt g it c et ei h3 X C A.toAmbE) (soG A.toAmbE t et h1) (soB g gx b c eb h4 X C A) (fun x => noFold_of h2 _ x)
  | .brk, c, s, h, X, C, A => by
    unfold mS at h
    cases s <;> first | exact ss_brk | cases h
  | .cnt, c, s, h, X, C, A => by
    unfold mS at h
    cases s <;> first | exact ss_cnt | cases h
  | .pass, c, s, h, X, C, A => by
    unfold mS at h
    cases s <;> first | exact ss_pass | cases h
  | .raise x, c, s, h, X, C, A => by
    unfold mS at h
    replace h := andO_eq h
    obtain ⟨q, hs, h⟩ := h
    simp only [and_tt, decide_eq_true_eq] at h
    obtain ⟨h1, h2⟩ := h
    obtain ⟨p, ms, j, p2, p3, r, rfl⟩ := vRaise_eq hs
    obtain ⟨k1, k2, k3⟩ := glB_eq A.toAmbE h1
    obtain ⟨B, newId, initId, bmB, f1, f2, f3, f4, f5, f6⟩ := gx q x h2
    exact ss_raise A.x A.tk (L2N.pmk_own f1 (by rw [A.x.k]; exact f2) (by rw [A.x.mg]; exact f3) (by rw [A.x.k]; exact f4) (raises_own (by rw [A.x.k]; exact f5) (by rw [A.x.k]; exact f6)) k1 k2)
  | .freeze _, c, s, h, X, C, A => absurd (show false = true from h) Bool.false_ne_true
  | .pop _ _, c, s, h, X, C, A => absurd (show false = true from h) Bool.false_ne_true
  | .setLam _ _, c, s, h, X, C, A => absurd (show false = true from h) Bool.false_ne_true
  | .raiseP _ _, c, s, h, X, C, A => absurd (show false = true from h) Bool.false_ne_true
theorem soB (g : Glo G K m) (gx : GloX G K) : ∀ (xs : List Stm) (c : Sc) (ss : List Stmt), mB K c xs ss = true → ∀ (X : Cx) (C : FCx), AmbS G c X C m → PSs X ss (tSt G C (Mini.evB G.prog.globs (cfN G m) G.wf xs))
  | [], c, ss, h, X, C, A => by
    unfold mB at h
    cases ss with
    | nil => exact sb_nil
    | cons s ss => cases h
  | x :: xs, c, ss, h, X, C, A => by
    unfold mB at h
    split at h
    · rename_i i
      exact sb_freeze A.hid (soB g gx xs c ss h X C A)
    · split at h
      · rename_i s ss
        simp only [and_tt] at h
        have one := soS g gx x c s h.1 X C A
        cases hb : mB K c xs ss with
        | true => exact sb_cons one (soB g gx xs c ss hb X C A)
        | false =>
          have h2 := h.2
          rw [hb] at h2
          simp only [Bool.false_or, and_tt] at h2
          exact sb_up (upB_up h2.1 _) one (soTB g gx xs c ss h2.2 X C A)
      · cases h
theorem soTI (g : Glo G K m) (gx : GloX G K) : ∀ (x : Stm) (c : Sc) (s : Stmt), mTI K c x s = true → ∀ (X : Cx) (C : FCx), AmbS G c X C m → PST X s (tSt G C (Mini.evS G.prog.globs (cfN G m) G.wf x))
  | .ite t a b, c, s, h, X, C, A => by
    unfold mTI at h
    replace h := andO_eq h
    obtain ⟨⟨et, ea, eb⟩, hs, h⟩ := h
    simp only [and_tt] at h
    rcases h with ⟨⟨h1, h2⟩, h3⟩
    obtain ⟨r, rfl⟩ := vIfS_eq hs
    exact stt_if (soE g t c et h1 X C A.toAmbE).2 (soTB g gx a c ea h2 X C A) (soTB g gx b c eb h3 X C A)
  | .set _ _ _, c, s, h, X, C, A => absurd (show false = true from h) Bool.false_ne_true
  | .setT _ _, c, s, h, X, C, A => absurd (show false = true from h) Bool.false_ne_true
  | .par _ _ _, c, s, h, X, C, A => absurd (show false = true from h) Bool.false_ne_true
  | .setLam _ _, c, s, h, X, C, A => absurd (show false = true from h) Bool.false_ne_true
  | .append _ _, c, s, h, X, C, A => absurd (show false = true from h) Bool.false_ne_true
  | .pop _ _, c, s, h, X, C, A => absurd (show false = true from h) Bool.false_ne_true
  | .setIdx _ _ _, c, s, h, X, C, A => absurd (show false = true from h) Bool.false_ne_true
  | .freeze _, c, s, h, X, C, A => absurd (show false = true from h) Bool.false_ne_true
  | .expr _, c, s, h, X, C, A => absurd (show false = true from h) Bool.false_ne_true
  | .ret _, c, s, h, X, C, A => absurd (show false = true from h) Bool.false_ne_true
  | .while _ _, c, s, h, X, C, A => absurd (show false = true from h) Bool.false_ne_true
  | .for _ _ _, c, s, h, X, C, A => absurd (show false = true from h) Bool.false_ne_true
  | .brk, c, s, h, X, C, A => absurd (show false = true from h) Bool.false_ne_true
  | .cnt, c, s, h, X, C, A => absurd (show false = true from h) Bool.false_ne_true
  | .pass, c, s, h, X, C, A => absurd (show false = true from h) Bool.false_ne_true
  | .raise _, c, s, h, X, C, A => absurd (show false = true from h) Bool.false_ne_true
  | .raiseP _ _, c, s, h, X, C, A => absurd (show false = true from h) Bool.false_ne_true
theorem soTB (g : Glo G K m) (gx : GloX G K) : ∀ (xs : List Stm) (c : Sc) (ss : List Stmt), mTB K c xs ss = true → ∀ (X : Cx) (C : FCx), AmbS G c X C m → PSsT X ss (tSt G C (Mini.evB G.prog.globs (cfN G m) G.wf xs))
  | [], c, ss, h, X, C, A => by
    unfold mTB at h
    cases ss with
    | nil => exact PSsT.of sb_nil
    | cons s ss => cases h
  | x :: xs, c, [], h, X, C, A => by
    unfold mTB at h
    cases h
  | x :: xs, c, s :: ss, h, X, C, A => by
    unfold mTB at h
    simp only [and_tt, Bool.or_eq_true] at h
    have rest := soTB g gx xs c ss h.2 X C A
    rcases h.1 with (h1 | h1) | h1
    · exact stt_cons (PST.of (soS g gx x c s h1 X C A)) rest
    · exact stt_cons (so_rep g c h1 X C A) rest
    · exact stt_cons (soTI g gx x c s h1 X C A) rest
end
end
end Snd
end
section
set_option maxRecDepth 100000
set_option maxHeartbeats 4000000
/-! Snd24: defs. -/
namespace Snd
open PySem PySem.Spec PyProof.Rows L2
open Mini (D Sl Xc Res SRes Ex Ar Itr Stm Tgt Prim)

def fnScB (N P : List Str) (sc : Scope) : Bool := decide (sc.kind = .function) && !sc.isCoroutine && !sc.isGenerator && decide N.Nodup && decide (N.take P.length = P) && decide (P.length ≤ N.length) &&
  P.all (fun x => decide (sc.names.lookup x = some .local) || decide (sc.names.lookup x = some .cell)) && sc.names.all fun y => decide (y.2 ≠ .free)
theorem fnSc_of {N P : List Str} {sc : Scope} (h : fnScB N P sc = true) : FnScope N P sc ∧ P.length ≤ N.length := by
  simp only [fnScB, Bool.and_eq_true, Bool.or_eq_true, Bool.not_eq_true', decide_eq_true_eq, List.all_eq_true] at h
  rcases h with ⟨⟨⟨⟨⟨⟨⟨h1, h2⟩, h3⟩, h4⟩, h5⟩, h6⟩, h7⟩, h8⟩
  exact ⟨⟨h1, h2, h3, h4, h5, h7, h8⟩, h6⟩
/-- a def of the text, its names -/
structure DI where
  x : Str
  qual : Str
  params : Arguments
  body : List Stmt
  scope : Scope
  ps : List Str
  N : List Str
  lams : Bool
/-- the name that stands ahead of what is made within -/
def envQ (q : Str) (sc : Scope) : Str := (envOfC q sc 0 0 .none).qual
def dB (K : CK) (i : DI) (d : Mini.Dfn) : Bool := fnScB i.N i.ps i.scope && decide (d.np = i.ps.length) && decide (d.ns = i.N.length) && (match d.body with
  | .stmts b => mB K ⟨i.N, i.scope, true, envQ i.qual i.scope, i.lams⟩ b i.body
  | _ => false)
section
variable {G : Gy} {K : CK} {c : Sc} {X : Cx} {C : FCx} {m : Nat} {ι ι' : List Addr} {W W' Z : Addr → Prop} {H H' : Hp} {ρ ρ' : Mini.Env} {st st' : Mini.Store} {σ σ' : L2.St}
theorem ArgsR.get {clo : CloP} : ∀ {ss : List Sl} {vs : List V} {i : Nat} {s : Sl}, ArgsR G.toGx clo ι W H ss vs → ss[i]? = some s → ∃ v, vs[i]? = some v ∧ ArgR G.toGx clo ι W H s v
  | _, _, _, _, .nil, e => nomatch e
  | _, _, 0, _, .cons a _, e => by cases e; exact ⟨_, rfl, a⟩
  | _, _, i + 1, _, .cons a b, e => by
    obtain ⟨v, q, r⟩ := ArgsR.get (i := i) b (by simpa using e)
    exact ⟨v, by simpa using q, r⟩
/-- behind the arguments stands nothing yet -/
theorem tail_non {ss : List Sl} {k i : Nat} {t : Sl} (h : ss.length ≤ i) (e : (ss ++ List.replicate k Sl.non)[i]? = some t) : t = .non := by
  have m : t ∈ List.replicate k Sl.non := by
    rw [List.getElem?_append_right h] at e
    exact List.mem_of_getElem? e
  exact List.eq_of_mem_replicate m
/-- a frame at its entry -/
def entry (H : Hp) (ι : List Addr) (Z : Addr → Prop) (E : XK) (cells : List (Str × Addr)) (clo : CloP) (N : List Str) (nm : List (Str × NameKind)) : FCx := ⟨H, ι, Z, E, cells, fun _ => False, clo, N, nm⟩
theorem entry_rl {E : XK} {cells : List (Str × Addr)} {clo : CloP} {N0 : List Str} {nm : List (Str × NameKind)} {N : List Str} {ss : List Sl} {vs : List V} {k : Nat} (hl : vs.length + k = N.length) (a : ArgsR G.toGx clo ι (Wz ι Z) H ss vs) (sto : StoR G.toGx ι (Wz ι Z) H st) (hz : ZOk G.toGx ι Z H) (t : LamX.Tabs G.T H) :
    Rl G.toGx (entry H ι Z E cells clo N0 nm) (ss ++ List.replicate k .non) st ι (L2.start N vs) H := by
  have hlen := a.length
  have own : ∀ (i : Nat) (d : D), (ss ++ List.replicate k Sl.non)[i]? = some (Sl.own d) → False := fun i d e => by
    by_cases hi : i < ss.length
    · rw [List.getElem?_append_left hi] at e
      obtain ⟨v, _, r⟩ := a.get e
      exact r
    · exact absurd (tail_non (Nat.not_lt.mp hi) e) (by simp)
  have hw : ∀ b, Wr (entry H ι Z E cells clo N0 nm) ι (ss ++ List.replicate k .non) (L2.start N vs) b → Wz ι Z b := fun b z => by
    rcases z with z | z | ⟨i, d, e, _⟩ | z
    · exact .inl z
    · exact .inr z
    · exact (own i d e).elim
    · exact z.elim
  refine ⟨⟨⟨[], by simp [entry]⟩, fun _ _ e _ _ => e, fun b h1 h2 => absurd h1 h2, fun _ e => e, hz, t⟩, ?_, sto.monoW (Snd.anti hw), fun i s e => ?_, fun i d b e => (own i d e).elim, fun i j d e b h => (own i d h).elim, fun b z => z.elim⟩
  · unfold L2.start
    simp
    omega
  · by_cases hi : i < ss.length
    · rw [List.getElem?_append_left hi] at e
      obtain ⟨v, hv, r⟩ := a.get e
      replace r := ArgR.mono (G := G) (Snd.anti hw) r
      have es : (L2.start N vs)[i]? = some (some v) := by
        unfold L2.start
        rw [List.getElem?_append_left (by simp; omega), List.getElem?_map, hv]
        rfl
      rw [es]
      cases s with
      | val d => exact ⟨v, rfl, r⟩
      | clo k cap =>
        obtain ⟨f, ev, r2⟩ := r
        subst ev
        exact ⟨f, rfl, r2⟩
      | _ => exact r.elim
    · cases tail_non (Nat.not_lt.mp hi) e
      trivial
theorem entry_stp {E : XK} {cells : List (Str × Addr)} {clo : CloP} {N0 : List Str} {nm : List (Str × NameKind)} (R : Rl G.toGx (entry H ι Z E cells clo N0 nm) ρ' st' ι' σ' H') : StpE ι H ι' H' := ⟨R.snc.pre, R.snc.keep, fun a z => by
  by_cases q : a ∈ ι
  · exact .inl q
  · exact .inr (R.snc.new a z q), R.snc.there⟩
theorem entry_anti {E : XK} {cells : List (Str × Addr)} {clo : CloP} {N0 : List Str} {nm : List (Str × NameKind)} : ∀ a, Wz ι' Z a → Wr (entry H ι Z E cells clo N0 nm) ι' ρ' σ' a := fun a z => by
  rcases z with z | z
  · exact .inl z
  · exact .inr (.inl z)
/-- the ends of a def's body -/
theorem entry_post {E : XK} {cells : List (Str × Addr)} {clo : CloP} {N0 : List Str} {nm : List (Str × NameKind)} {r : SRes} {Q : VK} (q : PostC G ι Z H r.fin Q E) : PostSt G (entry H ι Z E cells clo N0 nm) ρ ι σ H r { nx := fun _ H' => Q .non H', rt := Q } := by
  cases r with
  | nx ρ2 st2 => exact fun ι2 σ2 H2 R2 _ => q .non ι2 H2 (entry_stp R2) (R2.sto.monoW (Snd.anti entry_anti)) R2.snc.tabs .non
  | brk ρ2 st2 => exact q.elim
  | cnt ρ2 st2 => exact q.elim
  | ret d st2 => exact fun v ρ2 ι2 σ2 H2 R2 r2 => q v ι2 H2 (entry_stp R2) (R2.sto.monoW (Snd.anti entry_anti)) R2.snc.tabs (Rp.mono (Snd.anti entry_anti) _ _ r2)
  | raise x st2 => exact fun cls dx ρ2 ι2 σ2 H2 R2 e => q cls dx ι2 H2 (entry_stp R2) (R2.sto.monoW (Snd.anti entry_anti)) R2.snc.tabs e
  | stuck => exact q
theorem fn_zero {f : Addr} {fd : FuncData} {ps : List Str} {i : Nat} : FnC G.P G.w G.K G.mg G.base (L2N.CX G.P G.w) 0 f fd ps (SpC G (Mini.callN G.prog G.wf 0 i) ps.length) :=
  ⟨fun o s vs H Q E h => h.1, fun A outer s H args us vs Q E _ _ _ _ ⟨_, ss, st, ι, Z, _, _, _, _, q⟩ => q.elim⟩
/-- what the cells held at the entry they hold later -/
theorem cloAt.later {X : Cx} {pins : List (Addr × Obj)} {s : Shared} {cells : List (Str × Addr)} {fr : List Str} {ws : List V} (hex : X.ex = []) (hs : X.stack = X.env :: X.outer) (hf : X.env.frame = some X.env.locals) (I : Inv X pins σ H s) (h : cloAt X.outer X.s_0 X.H_0 cells fr ws) : cloAt X.stack s H cells fr ws := by
  obtain ⟨c, n⟩ := h
  refine ⟨c.later n (fun y a _ z => by rw [hex] at z; cases z) I, fun y a e z => ?_⟩
  rcases List.mem_cons.mp (I.stkSub a z) with z | z
  · obtain ⟨_, v, o, ho, _⟩ := c.all y a e
    have h1 : a < X.s_0.heap.objs.size := Heap.lt_size ho
    have h2 : X.s_0.heap.objs.size ≤ X.env.locals := I.ok.above
    have z : a = X.env.locals := z
    have h1 : X.env.locals < X.s_0.heap.objs.size := z ▸ h1
    exact absurd h2 (Nat.not_le.mpr h1)
  · exact n y a e z
theorem fn_succ {fd : FuncData} {i : Nat} {di : DI} {d : Mini.Dfn} (g : Glo G K m) (gx : GloX G K) (F : FunD G.K di.x di.qual di.params di.body di.scope [] [] (G.fa i) fd) (hd : G.prog.defs[i]? = some d) (hb : dB K di d = true)
    (ht : di.lams = true → ∃ cc tp, LamX.TabB G.base G.mg cc tp ∧ fd.code = .ref cc ∧ (tp, envQ di.qual di.scope ++ "<lambda>") ∈ G.T ∧ ∀ p ∈ G.T, p.1 = tp → p.2 = envQ di.qual di.scope ++ "<lambda>") :
    FnC G.P G.w G.K G.mg G.base (L2N.CX G.P G.w) (m + 1) (G.fa i) fd di.ps (SpC G (Mini.callN G.prog G.wf (m + 1) i) di.ps.length) := by
  simp only [dB, Bool.and_eq_true, decide_eq_true_eq] at hb
  obtain ⟨⟨⟨hsc, hnp⟩, hns⟩, hm⟩ := hb
  obtain ⟨S, hle⟩ := fnSc_of hsc
  cases hbody : d.body with
  | expr e => rw [hbody] at hm; cases hm
  | tryP tab => rw [hbody] at hm; cases hm
  | stmts b =>
    rw [hbody] at hm
    refine ⟨fun o s vs H Q E h => h.1, fun A outer s H args us vs Q E hr e0 bnd rv hsp => ?_⟩
    obtain ⟨_, _, _, _, _, _, _, cdv, _, _, rfl, lk, hcd, _⟩ := F.ex
    refine LamX.run_ofS lk hcd S hr e0 bnd rv hsp.1 fun hr' => ?_
    obtain ⟨hl, ss, st, ι, Z, a, sto, hz, t, q⟩ := hsp
    have hlen := a.length
    have q2 : PostC G ι Z H (Mini.evB G.prog.globs (cfN G m) G.wf b (ss ++ List.replicate (d.ns - d.np) .non) st).fin Q E := by
      unfold Mini.callN at q
      rw [hd] at q
      dsimp only at q
      rw [if_pos (by rw [hlen, hl, hnp]), hbody] at q
      exact q
    have tk : L2N.Takes (cxOf (L2N.CX G.P G.w) G.P G.w G.K G.mg G.base di.N di.qual di.scope (G.fa i) cdv A outer s H E) (fun cls d _ H => E cls d H) := L2N.takes_of rfl rfl rfl (E₁ := fun e' s'' => L2N.CX G.P G.w outer H s E e' s'') rfl
    have A0 : AmbS G ⟨di.N, di.scope, true, envQ di.qual di.scope, di.lams⟩ (cxOf (L2N.CX G.P G.w) G.P G.w G.K G.mg G.base di.N di.qual di.scope (G.fa i) cdv A outer s H E) (entry H ι Z E (envOfC di.qual di.scope s.heap.objs.size (G.fa i) cdv).cells (cloAt outer s H) di.N di.scope.names) m :=
      ⟨⟨⟨rfl, rfl, rfl, rfl, rfl, rfl, hr'⟩, rfl, S.nd, rfl, fun _ _ => rfl, L2N.passes_call tk fun _ _ _ _ h => h, fun _ => ⟨rfl, rfl, rfl, fun pins σ H' s' cells fr ws I h => cloAt.later rfl rfl rfl I h⟩, fun z => ⟨rfl, let ⟨cc, tp, t1, t2, t3, t4⟩ := ht z; ⟨cc, tp, t1, t2, t3, t4⟩⟩⟩, passes_of (E₁ := fun e' s'' => L2N.CX G.P G.w outer H s E e' s'') rfl, tk, fun _ z => z, rfl, S.kind⟩
    exact ⟨_, soB g gx b _ di.body hm _ _ A0, ss ++ List.replicate (d.ns - d.np) .non, st, ι, entry_rl (by rw [hl, hnp, hns]; omega) a sto hz t, entry_post q2⟩
end
end Snd
end
section
set_option maxRecDepth 100000
set_option maxHeartbeats 4000000
/-! Snd25: functions made: what they do when called. -/
namespace Snd
open PySem PySem.Spec PyProof.Rows L2
open Mini (D Sl Xc Res SRes Ex Ar Itr Stm Tgt Prim)
section
variable {G : Gy} {K : CK} {c : Sc} {X : Cx} {C : FCx} {m n : Nat} {ι ι' : List Addr} {W W' Z : Addr → Prop} {H H' : Hp} {ρ ρ' : Mini.Env} {st st' : Mini.Store} {σ σ' : L2.St}
/-- the text of such a function told by Mini -/
structure LamT (G : Gy) (K : CK) (k : Nat) (L : LamI) : Prop where
  sc : NdefX.NScope (L.ps ++ L.cap) L.ps L.cap L.scope
  bind : ∀ (cl : List (Str × Addr)) (pm cv ctv : Value) (us : List Value), us.length = L.ps.length → bindArgs (PySem.W.kla_fn "<lambda>" L.qual L.params L.body L.scope cl pm cv ctv) ⟨us, []⟩ = pure (L.ps.zip us)
  def_ : ∃ e, G.prog.defs[k]? = some ⟨L.ps.length + L.cap.length, L.ps.length + L.cap.length, .expr e⟩ ∧ mE K e ⟨L.ps ++ L.cap, L.scope, false, L.qual, false⟩ L.body = true ∧ firm e = true
theorem args_vals {clo : CloP} : ∀ {ds : List D} {vs : List V}, Rps G.toGx ι W H ds vs → ArgsR G.toGx clo ι W H (ds.map Sl.val) vs
  | [], _, h => by cases h; exact .nil
  | d :: ds, _, h => by cases h with | cons h1 h2 => exact .cons h1 (args_vals h2)
theorem entry_postE {E : XK} {cells : List (Str × Addr)} {clo : CloP} {N0 : List Str} {nm : List (Str × NameKind)} {r : Res D} {Q : VK} (q : PostC G ι Z H r Q E) : PostE G (entry H ι Z E cells clo N0 nm) .strong ρ ι σ H r Q := by
  cases r with
  | ok d st2 => exact fun v ι2 H2 R2 S2 r2 => q v ι2 H2 S2 (R2.sto.monoW (Snd.anti entry_anti)) R2.snc.tabs (Rp.mono (Snd.anti entry_anti) _ _ r2)
  | raise x st2 => exact fun cls dx ι2 H2 R2 e => q cls dx ι2 H2 (entry_stp R2) (R2.sto.monoW (Snd.anti entry_anti)) R2.snc.tabs e
  | stuck => exact q
theorem lam_succ {k : Nat} {L : LamI} (g : Glo G K m) (t : LamT G K k L) : FnL G (m + 1) k L := by
  intro A outer s H us vs Q E f c' cells pm ctv ws ds cap st ι Z hr e0 hf hc ca rv hl rd rc sto hz tabs q
  obtain ⟨e, hd, hm, hfirm⟩ := t.def_
  have ho := funO_at (P := G.P) (w := G.w) e0.hok hf
  have code : s.heap.CodeRec (.ref c') L.qual := NdefX.codeO_at e0.hok hc
  have lim : s.heap.NoLimit := e0.mod.nolimit.keeps fun _ _ z => (e0.bs _ _ z).1
  refine PySem.W.kla_callFunE hr.depth ho rfl t.sc.co t.sc.gen rfl code ?_
  rw [t.bind cells pm (.ref c') ctv us (by rw [← rv.length]; exact hl)]
  refine wpAny_pure (wpAny_newFunctionEnv t.sc.nocell (fun ⟨n, _⟩ hy => t.sc.par n (List.of_mem_zip hy).1) (fun h₁ hns hsb => ⟨lim.fresh _ hsb, ?_⟩) t.sc.kind)
  have kp : ∀ a u, s.heap.get? a = some u → h₁.get? a = some u := by
    intro a u e
    have old : a ≠ s.heap.objs.size := Nat.ne_of_lt (Heap.lt_size e)
    exact hsb.extBut a u old (Heap.get?_push_of_some _ e)
  have iv := NdefX.inv_startN (CX := L2N.CX G.P G.w) (F := ⟨"<lambda>", L.qual, L.params, [], L.scope, cells, c'⟩) (f := f) (E := E) (tk := s.toks + (L.ps.zip us).length) t.sc hr.hd e0 hl rv ca hns kp
  have hwl : ws.length = L.cap.length := by have := ca.len; rwa [List.length_map] at this
  have es : NdefX.startF (L.ps ++ L.cap) vs (ws.map some) = L2.start (L.ps ++ L.cap) (vs ++ ws) := by
    unfold NdefX.startF L2.start
    rw [List.map_append, List.append_assoc]
    congr 2
    simp
    omega
  rw [es] at iv
  have tk2 : L2N.Takes (NdefX.ncx (L2N.CX G.P G.w) G.P G.w G.K G.mg G.base (L.ps ++ L.cap) ⟨"<lambda>", L.qual, L.params, [], L.scope, cells, c'⟩ f A outer s H E) (fun cls d _ H => E cls d H) := L2N.takes_of rfl rfl rfl (E₁ := fun e' s'' => L2N.CX G.P G.w outer H s E e' s'') rfl
  have amb : AmbE G ⟨L.ps ++ L.cap, L.scope, false, L.qual, false⟩ (NdefX.ncx (L2N.CX G.P G.w) G.P G.w G.K G.mg G.base (L.ps ++ L.cap) ⟨"<lambda>", L.qual, L.params, [], L.scope, cells, c'⟩ f A outer s H E) (entry H ι Z E [] (fun _ _ _ => False) [] []) m :=
    ⟨⟨rfl, rfl, rfl, rfl, rfl, rfl, hr.deeper _⟩, rfl, t.sc.nd, rfl, (fun z => by cases z), L2N.passes_call tk2 fun _ _ _ _ h => h, (fun z => by cases z), (fun z => by cases z)⟩
  have hlen : ds.length = vs.length := rd.length
  have hlen2 : cap.length = ws.length := rc.length
  have R0 := entry_rl (G := G) (E := E) (cells := []) (clo := fun _ _ _ => False) (N0 := []) (nm := []) (N := L.ps ++ L.cap) (k := 0) (by simp; omega) (args_vals (rd.app rc)) sto hz tabs
  have q2 : PostC G ι Z H (Mini.evE G.prog.globs (cfN G m) e ((ds ++ cap).map Sl.val ++ List.replicate 0 .non) st) Q E := by
    unfold Mini.callN at q
    rw [hd] at q
    dsimp only at q
    rw [if_pos (by simp; omega)] at q
    rw [List.replicate_zero, List.append_nil]
    exact q
  refine PySem.W.kla_codeExpr (wpAny_mono ((firm_of hfirm (soE g e _ L.body hm _ _ amb).1).run [] _ _ H Q iv ⟨_, st, ι, R0, entry_postE q2⟩) (fun v s' hq => ?_) fun e s' hq => hq)
  obtain ⟨w', H2, J, rw2, hq⟩ := hq
  exact ⟨w', H2, J.os, J.bare, J.base, J.hok, rw2, hq⟩
theorem lam_zero {k : Nat} {L : LamI} : FnL G 0 k L := fun A outer s H us vs Q E f c' cells pm ctv ws ds cap st ι Z _ _ _ _ _ _ _ _ _ _ _ _ q => q.elim
end
end Snd
end
section
set_option maxRecDepth 100000
set_option maxHeartbeats 4000000
/-! Snd26: all defs, at every depth. -/
namespace Snd
open PySem PySem.Spec PyProof.Rows L2
open Mini (D Sl Xc Res SRes Ex Ar Itr Stm Tgt Prim)
/-- without functions made within functions made -/
def CK.flat (K : CK) : CK := { K with lam := fun _ _ => false }
/-- what stands fast of a module -/
structure Stat (G : Gy) (K : CK) : Prop where
  fn : ∀ s f np, K.gi.lookup s = some (.fn f np) → ∃ fd ps, np = ps.length ∧ G.mg s = some (.ref (G.fa f)) ∧ PySem.W.keepIn G.K (.ref (G.fa f)) = true ∧ Binds G.K fd ps [] ∧
    ((∃ (di : DI) (d : Mini.Dfn), di.ps = ps ∧ FunD G.K di.x di.qual di.params di.body di.scope [] [] (G.fa f) fd ∧ G.prog.defs[f]? = some d ∧ dB K di d = true ∧
        (di.lams = true → ∃ cc tp, LamX.TabB G.base G.mg cc tp ∧ fd.code = .ref cc ∧ (tp, envQ di.qual di.scope ++ "<lambda>") ∈ G.T ∧ ∀ p ∈ G.T, p.1 = tp → p.2 = envQ di.qual di.scope ++ "<lambda>")) ∨
      ∀ m, Glo G K m → FnC G.P G.w G.K G.mg G.base (L2N.CX G.P G.w) (m + 1) (G.fa f) fd ps (SpC G (Mini.callN G.prog G.wf (m + 1) f) ps.length))
  con : ∀ s n, K.gi.lookup s = some (.con n) → ∃ u v d, G.mg s = some u ∧ RelV v u ∧ G.prog.globs[n]? = some d ∧ ∀ ι W H, Rp G.toGx ι W H d v
  blt : ∀ s, K.blt.contains s = true → G.mg s = none
  gx : GloX G K
  lok : ∀ k L, K.lam k L = true → G.lamOk k L
  lt : ∀ k L, G.lamOk k L → LamT G K.flat k L
  fnI : ∀ s k np, K.gi.lookup s = some (.fn k np) → K.fv k = true → G.fnp s k np
  fnE : ∀ s k np, G.fnp s k np → K.gi.lookup s = some (.fn k np) ∧ ∃ d, G.prog.defs[k]? = some d ∧ d.np = np
theorem Glo.flat {G : Gy} {K : CK} {m : Nat} (g : Glo G K m) : Glo G K.flat m := ⟨g.fn, g.con, g.blt, g.lam, (fun k L h => absurd (show false = true from h) Bool.false_ne_true), g.fnI, g.fnE⟩
theorem glo_all {G : Gy} {K : CK} (S : Stat G K) : ∀ m, Glo G K m
  | 0 => by
    refine ⟨fun s f np h => ?_, S.con, S.blt, fun k L h => ⟨lam_zero, ?_⟩, S.lok, S.fnI, S.fnE⟩
    · obtain ⟨fd, ps, e, h1, h2, h3, _⟩ := S.fn s f np h
      subst e
      exact ⟨fd, ps, h1, h2, h3, fn_zero⟩
    · obtain ⟨e, h1, _⟩ := (S.lt k L h).def_
      exact ⟨e, h1⟩
  | m + 1 => by
    have g := glo_all S m
    refine ⟨fun s f np h => ?_, S.con, S.blt, fun k L h => ⟨lam_succ g.flat (S.lt k L h), ?_⟩, S.lok, S.fnI, S.fnE⟩
    · obtain ⟨fd, ps, e, h1, h2, h3, h4⟩ := S.fn s f np h
      subst e
      refine ⟨fd, ps, h1, h2, h3, ?_⟩
      rcases h4 with ⟨di, d, e, k1, k2, k3, k4⟩ | h4
      · subst e
        exact fn_succ g S.gx k1 k2 k3 k4
      · exact h4 m g
    · obtain ⟨e, h1, _⟩ := (S.lt k L h).def_
      exact ⟨e, h1⟩
end Snd
end
section
set_option maxRecDepth 100000
set_option maxHeartbeats 4000000
/-! SndH: a list comprehension over zip, while an exception is handled. -/
namespace Snd
open PySem PySem.Spec PyProof.Rows L2 HotX
section
variable {prog : Program} {w : World} {A : Around} {E : Value → Shared → Prop} {s : Shared}
/-- a StopIteration raised while another is handled: the heap has grown -/
theorem stop_hot {α : Type} {x1 : Addr} {Q : α → Shared → Prop} (hot : HotAt A x1 s.heap)
    (out : ∀ h' e, (∀ b o, s.heap.get? b = some o → h'.get? b = some o) → (∃ o, h'.get? e = some o ∧ o.cls = .type "StopIteration") → E (.ref e) { s with heap := h' }) :
    wpAny (model prog w) A (Builtin.SmallTypes.stopIteration : Sem α) Q E s := by
  obtain ⟨hp, gs, dr, tk, ost⟩ := s
  obtain ⟨hh, o1, vs1, g1, d1, c1⟩ := hot
  delta Builtin.SmallTypes.stopIteration
  simp only [newExc, newTuple]
  wp_walk
  have g2 := Heap.get?_push_of_some { cls := Value.type "tuple", data := Data.seq #[] } g1
  refine raiseNew_hot ⟨hh, o1, vs1, Heap.get?_push_of_some _ g2, d1, c1⟩ (Nat.ne_of_lt (Heap.lt_size g2)) (Heap.get?_push_size _ rfl) rfl (by simp only [Array.size_append]; simp; omega) (out _ _ ?_ ⟨_, Heap.get?_update_self _ (Heap.get?_push_size _ rfl) rfl, rfl⟩)
  intro b o e
  have later := Heap.get?_push_of_some { cls := Value.type "tuple", data := Data.seq #[] } e
  exact (Heap.get?_update_other _ _ (Nat.ne_of_gt (Heap.lt_size later))).trans (Heap.get?_push_of_some _ later)
end
/-- what an iterator over its wits tells: a new StopIteration -/
def Spent (it l x1 : Addr) (c1 : String) (i : Int) (its : Array Value) : PySem.Spec := fun A R s => HotAt A x1 s.heap ∧ x1 ≠ it ∧ its[i.toNat]? = none ∧
  (∃ d sl, s.heap.get? it = some ⟨.type c1, d, .fields #[.ref l, .int i 0], sl⟩) ∧ (∃ c d n sl, s.heap.get? l = some ⟨c, d, .seq its n, sl⟩) ∧
  ∀ h' e, Heap.ExtBut it s.heap h' → (∃ o, h'.get? e = some o ∧ o.cls = .type "StopIteration") → R (.error (.ref e)) { s with heap := h' }
theorem spent_list (it l x1 : Addr) (i : Int) (its : Array Value) : Meets (Builtin.«list_iterator.__next__» ⟨[.ref it], []⟩) (Spent it l x1 "list_iterator" i its) :=
  .of_wp fun P w A R s h => by
    obtain ⟨hp, gs, dr, tk, ost⟩ := s
    obtain ⟨⟨hh, o1, vs1, g1, dt, ct⟩, ne, none_, ⟨d, sl, gi⟩, ⟨c, d2, n, sl2, gl⟩, out⟩ := h
    wp_walk using AutoSeq1.wpAny_loadPart' gi, AutoSeq1.wpAny_loadPart' gl
    rw [none_]
    have same : Heap.SameBut it hp (hp.update it (Obj.mapFields (·.setIfInBounds 0 Value.none))) := Heap.SameBut.update ..
    refine wpAny_bind (wpAny_rule (wpAny_bind (wpAny_setField gi rfl (by simp) (stop_hot (x1 := x1) ⟨hh, o1, vs1, same.extBut _ _ ne g1, dt, ct⟩ fun h' e old new => ?_))))
    exact out h' e (fun b o nb g => old b o (same.extBut b o nb g)) new
theorem spent_tuple (it l x1 : Addr) (i : Int) (its : Array Value) : Meets (Builtin.«tuple_iterator.__next__» ⟨[.ref it], []⟩) (Spent it l x1 "tuple_iterator" i its) :=
  .of_wp fun P w A R s h => by
    obtain ⟨hp, gs, dr, tk, ost⟩ := s
    obtain ⟨⟨hh, o1, vs1, g1, dt, ct⟩, ne, none_, ⟨d, sl, gi⟩, ⟨c, d2, n, sl2, gl⟩, out⟩ := h
    wp_walk using AutoSeq1.wpAny_loadPart' gi, AutoSeq1.wpAny_loadPart' gl
    rw [none_]
    have same : Heap.SameBut it hp (hp.update it (Obj.mapFields (·.setIfInBounds 0 Value.none))) := Heap.SameBut.update ..
    refine wpAny_bind (wpAny_rule (wpAny_bind (wpAny_setField gi rfl (by simp) (stop_hot (x1 := x1) ⟨hh, o1, vs1, same.extBut _ _ ne g1, dt, ct⟩ fun h' e old new => ?_))))
    exact out h' e (fun b o nb g => old b o (same.extBut b o nb g)) new

section
variable {prog : Program} {w : World} {A : Around} {E : Value → Shared → Prop} {s : Shared}
/-- asked once more, it ends; the word of its class: slot, entry, arguments -/
theorem spent_asks {it l x1 : Addr} {c1 id : String} {B : Builtin} {i : Nat} {its : Array Value} {Q : Option Value → Shared → Prop} (slot : Slot c1 "__next__" id) (entry : entryFor table id = some B) (args : argsOk id ⟨[.ref it], []⟩)
    (m : Meets (B ⟨[.ref it], []⟩) (Spent it l x1 c1 i its)) (hot : HotAt A x1 s.heap) (ne : x1 ≠ it) (hit : ∃ o, s.heap.get? it = some o ∧ o.cls = .type c1 ∧ o.data = .fields #[.ref l, .int i 0]) (hl : ∃ o n, s.heap.get? l = some o ∧ o.data = .seq its n) (hx : its[i]? = none)
    (out : ∀ h' e, Heap.ExtBut it s.heap h' → (∃ o, h'.get? e = some o ∧ o.cls = .type "StopIteration") → E (.ref e) { s with heap := h' }) :
    wpAny (model prog w) A (callSpecial? (.ref it) "__next__") Q E s
    := by
  obtain ⟨⟨_, d, _, sl⟩, g, rfl, rfl⟩ := hit
  obtain ⟨⟨c, d2, _, sl2⟩, n, gl, rfl⟩ := hl
  refine wpAny_callSpecial?_slot (name := Str.ofString "__next__") ⟨_, g, rfl⟩ slot (call_meets slot ⟨_, g, rfl⟩ entry args m ?_)
  exact ⟨hot, ne, by simpa using hx, ⟨d, sl, g⟩, ⟨c, d2, n, sl2, gl⟩, out⟩
/-- a list's iterator, for zip, while x1 is handled -/
theorem draws_hot {x1 : Addr} (hh : A.handled = some (.ref x1)) (it l : Addr) (hne : l ≠ it) (hx : x1 ≠ it) (items : Array Value) :
    Draws prog w A it [it, l, x1] items.size (fun i v => items[i]? = some v) (fun i h => (h.IsListIter it l i ∧ h.IsList l items) ∧ ∃ (o : Obj) (vs : Array Value), h.get? x1 = some o ∧ o.data = .fields vs ∧ vs[2]? = some .none) where
  live := fun _ _ st => let ⟨o, e, _⟩ := st.1.1; ⟨o, e⟩
  frame := fun _ _ _ st k => ⟨⟨st.1.1.at fun o e => k it (by simp) o e, st.1.2.at fun o e => k l (by simp) o e⟩, let ⟨o, vs, e, r⟩ := st.2; ⟨o, vs, k x1 (by simp) o e, r⟩⟩
  item := fun i s Q E lt st go => by
    obtain ⟨⟨h1, h2⟩, o, vs, e, r⟩ := st
    refine wpAny_nextOf_list_item h1 h2 (x := items[i]) (by simp [lt]) fun h' next same => ?_
    exact go _ h' s.toks (by simp [lt]) ⟨⟨next, h2.extBut same.extBut hne⟩, o, vs, same.extBut _ _ hx e, r⟩ same
  done := fun s Q E st out => by
    obtain ⟨⟨⟨o, g, c, d⟩, ⟨ol, gl, _, n, dl⟩⟩, oe, vs, ge, r⟩ := st
    exact wpAny_bind (spent_asks PySem.slot_listiter_next PySem.entry_listiter_next (PySem.args_listiter_next _) (spent_list it l x1 _ items) ⟨hh, oe, vs, ge, r⟩ hx ⟨o, g, c, d⟩ ⟨ol, n, gl, dl⟩ (by simp) out)
/-- .. a tuple's, when a target of several names is given its items -/
theorem tuple_over {it t x1 : Addr} {i : Nat} {items : Array Value} {Q : Option Value → Shared → Prop} (hot : HotAt A x1 s.heap) (hx : x1 ≠ it) (hit : s.heap.IsTupleIter it t i) (ht : s.heap.IsTuple t items) (no : items[i]? = none)
    (go : ∀ h', Heap.ExtBut it s.heap h' → Q none { s with heap := h' }) : wpAny (model prog w) A (pyNext (.ref it)) Q E s := by
  obtain ⟨o, g, c, d⟩ := hit
  obtain ⟨ol, gl, _, n, dl⟩ := ht
  delta pyNext
  refine wpAny_bind (wpAny_attempt (spent_asks PySem.F.slot_tuple_iterator_next PySem.F.entry_tuple_iterator_next (PySem.F.args_tuple_iterator_next_1 _) (spent_tuple it t x1 _ items) hot hx ⟨o, g, c, d⟩ ⟨ol, n, gl, dl⟩ no fun h' e ext new => ?_))
  exact wpAny_bind (wpAny_isInstance (T := "StopIteration") (b := true) new isSubtype_stop (wpAny_pure (go h' ext)))
/-- the items of a tuple, all of them, while x1 is handled -/
theorem items_hot {t x1 : Addr} {items : Array Value} {Q : List Value → Shared → Prop} (hot : HotAt A x1 s.heap) (ht : s.heap.IsTuple t items)
    (go : ∀ h', Heap.ExtBut s.heap.objs.size s.heap h' → Q items.toList { s with heap := h' }) : wpAny (model prog w) A (unpackItems (.ref t) items.size none) Q E s := by
  obtain ⟨hh, oe, vs, ge, de, ce⟩ := hot
  have old : ∀ b o, s.heap.get? b = some o → b ≠ s.heap.objs.size := fun b o e => Nat.ne_of_lt (Heap.lt_size e)
  have tn : t ≠ s.heap.objs.size := let ⟨o, g, _⟩ := ht; old t o g
  have isIt := PySem.F.slot_tuple_iter.lookup
  have begun : wpAny (model prog w) A (pyIter (.ref t)) (fun it s1 => it = .ref s.heap.objs.size ∧ s1 = { s with heap := s.heap.push { cls := .type "tuple_iterator", data := .fields #[.ref t, .int 0 0] } }) E s := wpAny_pyIter_tuple ht ⟨rfl, rfl⟩
  delta unpackItems notIterableAtAll
  refine wpAny_bind (wpAny_bind (wpAny_specialOf ht.typeIs isIt (wpAny_pure (wpAny_bind (wpAny_holding (wpAny_mono begun ?_ fun _ _ z => z))))))
  rintro _ _ ⟨rfl, rfl⟩
  have first : (s.heap.push { cls := .type "tuple_iterator", data := .fields #[.ref t, .int 0 0] }).IsTupleIter s.heap.objs.size t 0 := ⟨_, Heap.get?_push_size _ rfl, rfl, rfl⟩
  refine wpAny_bind (wpAny_holding (wpAny_draw_tuple tn items.size 0 _ _ first (ht.push _) (Nat.le_of_eq (Nat.zero_add _)) fun h1 it1 same => ?_))
  have whole : (items.toList.drop 0).take items.size = items.toList := by rw [List.drop_zero, ← Array.length_toList, List.take_length]
  rw [whole, if_neg (show ¬ items.toList.length < items.size by simp)]
  have g1 : h1.get? x1 = some oe := same.extBut _ _ (old _ _ ge) (Heap.get?_push_of_some _ ge)
  refine wpAny_bind (wpAny_holding (tuple_over (x1 := x1) ⟨hh, oe, vs, g1, de, ce⟩ (old _ _ ge) it1 ((ht.push _).extBut same.extBut tn) (by simp) fun h2 ext => ?_))
  exact wpAny_pure (go h2 fun b o ne e => ext b o ne (same.extBut b o ne (Heap.get?_push_of_some _ e)))
/-- a, b = a tuple of two -/
theorem names_hot {env : Env} {n1 n2 : Str} {p1 p2 pt : Pos} {k : Nat} {t x1 : Addr} {u1 u2 : Value} {Q : Unit → Shared → Prop} (hot : HotAt A x1 s.heap) (ht : s.heap.IsTuple t #[u1, u2])
    (go : ∀ h', Heap.ExtBut s.heap.objs.size s.heap h' → wpAny (model prog w) A (assignInOrder [assign (.Name n1 p1) env, assign (.Name n2 p2) env] [u1, u2]) Q E { s with heap := h' }) :
    wpAny (model prog w) A (assign (.Tuple [.Name n1 p1, .Name n2 p2] k pt) env (.ref t)) Q E s := by
  rw [arm_assign_Tuple]
  have shape : assignEach [.Name n1 p1, .Name n2 p2] env = [(false, assign (.Name n1 p1) env), (false, assign (.Name n2 p2) env)] := by rfl
  refine shape ▸ wpAny_bind (wpAny_standAt ?_)
  have two := items_hot (prog := prog) (w := w) (E := E) (Q := fun items s' => wpAny (model prog w) A (assignInOrder [assign (.Name n1 p1) env, assign (.Name n2 p2) env] items) Q E s') hot ht go
  have opened : unpack (.ref t) [(false, assign (.Name n1 p1) env), (false, assign (.Name n2 p2) env)] = (do let items ← holding [.ref t] (unpackItems (.ref t) 2 none); assignInOrder [assign (.Name n1 p1) env, assign (.Name n2 p2) env] items) := by rfl
  rw [opened]
  exact wpAny_bind (wpAny_holding two)
end
/-- those that are marked -/
def pick {α : Type} (xs : List α) (bs : List Bool) : List α := ((xs.zip bs).filter (·.2)).map (·.1)
theorem pick_step {α : Type} {xs : List α} {bs : List Bool} {i : Nat} {x : α} {b : Bool} (hx : xs[i]? = some x) (hb : bs[i]? = some b) : pick (xs.take (i + 1)) (bs.take (i + 1)) = pick (xs.take i) (bs.take i) ++ if b then [x] else [] := by
  have e1 : xs.take (i + 1) = xs.take i ++ [x] := by rw [List.take_add_one, hx]; rfl
  have e2 : bs.take (i + 1) = bs.take i ++ [b] := by rw [List.take_add_one, hb]; rfl
  have l1 : i < xs.length := (List.getElem?_eq_some_iff.mp hx).1
  have l2 : i < bs.length := (List.getElem?_eq_some_iff.mp hb).1
  unfold pick
  rw [e1, e2, List.zip_append (by rw [List.length_take, List.length_take]; omega), List.filter_append, List.map_append]
  cases b <;> rfl
theorem far {b N k : Nat} (h : b < N) (hk : N + 5 ≤ k) : b ≠ k := by omega
theorem far5 {j N k : Nat} (h : j < 5) (hk : N + 5 ≤ k) : N + j ≠ k := by omega
theorem off_wr {b N D : Nat} (h : b < N) (hD : N + 5 ≤ D) : ¬ (b = D ∨ b = N + 4 ∨ b = N + 3 ∨ b = N ∨ b = N + 1) := by omega
theorem off_C {C N D : Nat} (h : C ≠ D) (hC : N + 5 ≤ C) : ¬ (C = D ∨ C = N + 4 ∨ C = N + 3 ∨ C = N ∨ C = N + 1) := by omega
theorem below5 {b N l1 l2 y : Nat} (h1 : l1 < N) (h2 : l2 < N) (h3 : y < N) (h : b = N + 4 ∨ b = N + 2 ∨ b = N + 3 ∨ b = N ∨ b = l1 ∨ b = y ∨ b = N + 1 ∨ b = l2 ∨ b = y) : b < N + 5 := by omega
section
variable {prog : Program} {w : World} {A : Around} {E : Value → Shared → Prop} {s : Shared}
/-- zip(xs, ys) as [a for a, b in zip(xs, ys) if b] walks it, ys bools, while x1 is handled -/
theorem picked_hot {env : Env} {scope : Scope} {cl : List (Str × Addr)} {l1 l2 x1 : Addr} {xs : List Value} {bs : List Bool} {n1 n2 : Str} {pa pb pc pt pe : Pos} {k : Nat} {Q : Value → Shared → Prop} (hot : HotAt A x1 s.heap)
    (hkind : scope.kind = .function) (ha : scope.names.lookup n1 = some .local) (hb : scope.names.lookup n2 = some .local) (hne : n1 ≠ n2) (d1 : (n1 == ("__debug__" : Str)) = false) (d2 : (n2 == ("__debug__" : Str)) = false)
    (hl1 : s.heap.IsList l1 xs.toArray) (hl2 : s.heap.IsList l2 (bs.map Value.bool).toArray) (hsz : xs.length ≤ sizeLine) (hlen : xs.length = bs.length)
    (done : ∀ D h' tk, s.heap.objs.size ≤ D → h'.PlainList D (pick xs bs).toArray → (∀ b o, s.heap.get? b = some o → h'.get? b = some o) → Q (.ref D) { s with heap := h', toks := tk }) :
    wpAny (model prog w) A (call (.type "zip") [.ref l1, .ref l2]) (fun z s1 => wpAny (model prog w) A (pyIter z) (LcGoes prog w A E env scope cl (.Tuple [.Name n1 pa, .Name n2 pb] k pt) [.Name n2 pc] (.Name n1 pe) none Q) E s1) E s := by
  obtain ⟨hh, oe, ve, ge, de, ce⟩ := hot
  have below : ∀ b o, s.heap.get? b = some o → b < s.heap.objs.size := fun _ _ e => Heap.lt_size e
  have lt1 : l1 < s.heap.objs.size := let ⟨o, e, _⟩ := hl1; below _ o e
  have lt2 : l2 < s.heap.objs.size := let ⟨o, e, _⟩ := hl2; below _ o e
  have ltx : x1 < s.heap.objs.size := below _ _ ge
  refine zip_begins2 (begins_list l1 xs.toArray) (begins_list l2 (bs.map Value.bool).toArray) hl1 hl2 ?_
  intro h1 isZip isTI isTO it1 it2 size kept1
  refine wpAny_pyIter_zip isZip ?_
  have D1 := draws_hot (prog := prog) (w := w) (A := A.in1) hh s.heap.objs.size l1 (Nat.ne_of_lt lt1) (Nat.ne_of_lt ltx) xs.toArray
  have D2 := draws_hot (prog := prog) (w := w) (A := A.in1) hh (s.heap.objs.size + 1) l2 (Nat.ne_of_lt (Nat.lt_succ_of_lt lt2)) (Nat.ne_of_lt (Nat.lt_succ_of_lt ltx)) (bs.map Value.bool).toArray
  have apart : ∀ {l : Addr}, l < s.heap.objs.size → ∀ b ∈ [l, x1], b < s.heap.objs.size := fun lt b hb => by
    rcases List.mem_cons.1 hb with rfl | hb
    · exact lt
    · rw [List.mem_singleton.1 hb]; exact ltx
  have sep := zip_sep2 (N := s.heap.objs.size) (apart lt1) (apart lt2)
  have exc1 : ∃ (o : Obj) (vs : Array Value), h1.get? x1 = some o ∧ o.data = .fields vs ∧ vs[2]? = some .none := ⟨oe, ve, kept1 _ _ ge, de, ce⟩
  refine ⟨_, _, _, _, _, _, rfl, Goes.zip2 sep D1 D2, ?_, ⟨isZip, isTI, ⟨_, _, isTO⟩, ⟨⟨⟨_, it1, rfl, rfl⟩, hl1.at fun o e => kept1 _ o e⟩, exc1⟩, ⟨⟨_, it2, rfl, rfl⟩, hl2.at fun o e => kept1 _ o e⟩, exc1⟩, ?_, ?_⟩
  · simpa using Nat.le_trans (Nat.min_le_left _ _) hsz
  · intro b hb
    show b < h1.objs.size
    rw [size]
    exact below5 lt1 lt2 ltx (by simpa using hb)
  rintro D C s3 ⟨⟨h3, tk3, rfl⟩, old, newD, newC, ne, names⟩
  have aD : s.heap.objs.size + 5 ≤ D := size ▸ newD
  have aC : s.heap.objs.size + 5 ≤ C := size ▸ newC
  have kind : ∀ y, scope.names.lookup y = some .local → (compEnvC scope cl C env).kindOf y = some .local := fun y hy => lookup_relabel_local hy
  have plain : ((compEnvC scope cl C env).scope.kind == .class || ((compEnvC scope cl C env).scope.kind == .module && (compEnvC scope cl C env).locals != (compEnvC scope cl C env).globals)) = false := by
    show (scope.kind == .class || (scope.kind == .module && (_ != _))) = false
    rw [hkind]; rfl
  refine ⟨fun i vs t => (∃ h' tk, t = { s with heap := h', toks := tk }) ∧ (∃ m, t.heap.Ns C m) ∧ vs = pick (xs.take i) (bs.take i) ∧ ∀ b o, s.heap.get? b = some o → t.heap.get? b = some o, ?_, ?_, ?_, ?_⟩
  · exact ⟨⟨h3, tk3, rfl⟩, ⟨_, names⟩, rfl, fun b o e => old b o (kept1 b o e)⟩
  · rintro i vs _ h' tk ⟨⟨h4, tk4, rfl⟩, ⟨m, ns⟩, ev, kept⟩ still _
    refine ⟨⟨h', tk, rfl⟩, ⟨m, ns.at' fun o e => still C o (fun hm => off_C (Ne.symm ne) aC (by simpa using hm)) e⟩, ev, fun b o e => still b o (fun hm => off_wr (below b o e) aD (by simpa using hm)) (kept b o e)⟩
  · rintro i v vs _ lt ⟨T, x, y, rfl, hx, hy, isT⟩ st ⟨⟨h4, tk4, rfl⟩, ⟨m, ns⟩, ev, kept⟩ acc
    have hx : xs[i]? = some x := by simpa using hx
    obtain ⟨b, hb2, rfl⟩ : ∃ b, bs[i]? = some b ∧ Value.bool b = y := by simpa using hy
    obtain ⟨z1, z2, ⟨a1, a2, z3⟩, ⟨⟨z4, z5⟩, oz, vz, gz, dz, cz⟩, ⟨⟨z6, z7⟩, _⟩⟩ := st
    refine names_hot (x1 := x1) ⟨hh, oz, vz, gz, dz, cz⟩ isT fun h5 ext => ?_
    have up5 : ∀ a o, h4.get? a = some o → h5.get? a = some o := fun a o e => ext a o (Nat.ne_of_lt (Heap.lt_size e)) e
    refine wpAny_assignInOrder_more (wpAny_assign_Name (wpAny_storeName_local (kind _ ha) (ns.at' fun o e => up5 _ o e) (fun h6 ns6 same6 => ?_) plain))
    refine wpAny_assignInOrder_more (wpAny_assign_Name (wpAny_storeName_local (kind _ hb) ns6 (fun h7 ns7 same7 => wpAny_assignInOrder_none ?_) plain))
    have up7 : ∀ a o, a ≠ C → h4.get? a = some o → h7.get? a = some o := fun a o nC e => same7.extBut a o nC (same6.extBut a o nC (up5 a o e))
    have base : ∀ a o, s.heap.get? a = some o → h7.get? a = some o := fun a o e => up7 a o (far (below a o e) aC) (kept a o e)
    have state : IsZip h7 (s.heap.objs.size + 4) (s.heap.objs.size + 2) (s.heap.objs.size + 3) .none ∧ IsTupOf2 h7 (s.heap.objs.size + 2) (.ref s.heap.objs.size) (.ref (s.heap.objs.size + 1)) ∧ (∃ a1 a2, IsTupOf2 h7 (s.heap.objs.size + 3) a1 a2) ∧
        ((h7.IsListIter s.heap.objs.size l1 (i + 1) ∧ h7.IsList l1 xs.toArray) ∧ ∃ (o : Obj) (vs : Array Value), h7.get? x1 = some o ∧ o.data = .fields vs ∧ vs[2]? = some .none) ∧
        ((h7.IsListIter (s.heap.objs.size + 1) l2 (i + 1) ∧ h7.IsList l2 (bs.map Value.bool).toArray) ∧ ∃ (o : Obj) (vs : Array Value), h7.get? x1 = some o ∧ o.data = .fields vs ∧ vs[2]? = some .none) := by
      have exc : ∃ (o : Obj) (vs : Array Value), h7.get? x1 = some o ∧ o.data = .fields vs ∧ vs[2]? = some .none := ⟨oe, ve, base _ _ ge, de, ce⟩
      refine ⟨up7 _ _ (far5 (by decide) aC) z1, up7 _ _ (far5 (by decide) aC) z2, ⟨a1, a2, up7 _ _ (far5 (by decide) aC) z3⟩, ⟨⟨z4.at fun o e => up7 _ o (far5 (j := 0) (by decide) aC) e, hl1.at fun o e => base _ o e⟩, exc⟩, ⟨⟨z6.at fun o e => up7 _ o (far5 (by decide) aC) e, hl2.at fun o e => base _ o e⟩, exc⟩⟩
    have acc7 : h7.PlainList D vs.toArray := acc.at fun o e => up7 _ o ne e
    refine wpAny_tests_one ?_
    have read2 : ∀ {R : Value → Shared → Prop} {tk : Nat} {EE : Value → Shared → Prop}, R (.bool b) { s with heap := h7, toks := tk } → wpAny (model prog w) A (eval (.Name n2 pc) (compEnvC scope cl C env)) R EE { s with heap := h7, toks := tk } := fun q => by
      rw [eval_Name _ _ _ d2]
      exact wpAny_bind (wpAny_standAt (wpAny_loadName_local hkind (kind _ hb) ns7 (if_pos rfl) q))
    have read1 : ∀ {R : Value → Shared → Prop} {tk : Nat} {EE : Value → Shared → Prop}, R x { s with heap := h7, toks := tk } → wpAny (model prog w) A (eval (.Name n1 pe) (compEnvC scope cl C env)) R EE { s with heap := h7, toks := tk } := fun q => by
      rw [eval_Name _ _ _ d1]
      exact wpAny_bind (wpAny_standAt (wpAny_loadName_local hkind (kind _ ha) ns7 (by simp [hne]) q))
    refine wpAny_isTrue_value (read2 (wpAny_truthy_bool ?_))
    cases b with
    | true =>
      rw [if_pos rfl]
      refine read1 ⟨⟨⟨h7, _, rfl⟩, ⟨_, ns7⟩, ?_, base⟩, state, acc7⟩
      rw [pick_step hx hb2, ev]
      rfl
    | false =>
      rw [if_neg (by decide)]
      refine ⟨⟨⟨h7, _, rfl⟩, ⟨_, ns7⟩, ?_, base⟩, state, acc7⟩
      rw [pick_step hx hb2, ev]
      simp
  · rintro vs _ ⟨⟨h4, tk4, rfl⟩, ⟨m, ns⟩, ev, kept⟩ acc
    refine ⟨m, ns, fun h' same => ?_⟩
    have all : vs = pick xs bs := by
      rw [ev, List.take_of_length_le (by simp [hlen]), List.take_of_length_le (by simp [hlen])]
    subst all
    exact done D h' tk4 (Nat.le_trans (Nat.le_add_right _ 5) aD) (acc.extBut same.extBut ne) fun b o e => same.extBut b o (far (below b o e) aC) (kept b o e)
end
end Snd
end
section
set_option maxRecDepth 100000
set_option maxHeartbeats 4000000
/-! SndK: what kind an error is told to be, while it is handled. -/
namespace Snd
open PySem PySem.Spec PyProof.Rows L2
open Mini (D Sl Xc Res SRes Ex Ar Itr Stm Tgt Prim)
/-! ### the parts of such a def -/
/-- the names of its frame: the error, its marks, their labels -/
structure KinN where
  e : Str
  s : Str
  l : Str
/-- isinstance(e, C) -/
def isB (n : KinN) (C : Str) (x : Expr) : Bool := andO (vCall x) fun q => decide (q.1 = "isinstance") && andO (two' q.2) fun r => decide (vName r.1 = some n.e) && decide (vName r.2 = some C)
def isBs (n : KinN) : List Str → List Expr → Bool
  | [], [] => true
  | C :: Cs, x :: xs => isB n C x && isBs n Cs xs
  | _, _ => false
/-- o.name(x), on one row -/
def vMth : Expr → Option (Expr × Str × Expr)
  | .Call (.Attribute o name ap) [x] [] cp => if (ap.endLine == cp.line) = true then some (o, name, x) else none
  | _ => none
theorem vMth_eq {x o y : Expr} {name : Str} (h : vMth x = some (o, name, y)) : ∃ ap cp, (ap.endLine == cp.line) = true ∧ x = .Call (.Attribute o name ap) [y] [] cp := by
  unfold vMth at h
  split at h
  · split at h
    · rename_i c
      cases h
      exact ⟨_, _, c, rfl⟩
    · cases h
  · cases h
inductive KinS where
  | set (Cs : List Str)
  | app (C : Str)
  | cat (Cs : List Str)
  | txt (t : Str)
def kinSB (n : KinN) : KinS → Stmt → Bool
  | .set Cs, st => andO (vSet1 st) fun q => decide (q.1 = n.s) && andO (vLst q.2) fun es => isBs n Cs es
  | .app C, st => andO (vApp st) fun q => decide (q.1 = n.s) && isB n C q.2
  | .cat Cs, st => andO (vSet1 st) fun q => decide (q.1 = n.s) && andO (vBin q.2) fun b => decide (b.2.1 = .Add) && decide (vName b.1 = some n.s) && andO (vLst b.2.2) fun es => isBs n Cs es
  | .txt t, st => andO (vSet1 st) fun q => decide (q.1 = n.l) && decide (vCon q.2 = some (.str t))
def kinSsB (n : KinN) : List KinS → List Stmt → Bool
  | [], [] => true
  | k :: ks, s :: ss => kinSB n k s && kinSsB n ks ss
  | _, _ => false
/-- the comprehension's own names -/
def kinScB (a b : Str) (sc : Scope) : Bool := decide (sc.kind = .function) && sc.names.all (fun y => decide (y.2 ≠ .cell) && decide (y.2 ≠ .free) && (!decide (y.2 = .local) || decide (sc.names.lookup y.1 = some .local))) && decide (sc.names.lookup a = some .local) && decide (sc.names.lookup b = some .local) && decide (a ≠ b) && dunder a && dunder b
/-- ' '.join([a for a, b in zip(l.split(' '), s) if b]) -/
def kinRB (n : KinN) (a b : Str) (st : Stmt) : Bool := andO (vRet st) fun o => andO o fun x => andO (vMth x) fun m => decide (vCon m.1 = some (.str " ")) && decide (m.2.1 = "join") && andO (vLc m.2.2) fun c =>
  decide (vName c.1 = some a) && andO (vTup c.2.1) (fun ts => andO (two' ts) fun t => decide (vName t.1 = some a) && decide (vName t.2 = some b)) && andO (one c.2.2.2.1) (fun i => decide (vName i = some b)) && kinScB a b c.2.2.2.2 &&
    andO (vCall c.2.2.1) fun z => decide (z.1 = "zip") && andO (two' z.2) fun zs => decide (vName zs.2 = some n.s) && andO (vMth zs.1) fun sp => decide (vName sp.1 = some n.l) && decide (sp.2.1 = "split") && decide (vCon sp.2.2 = some (.str " "))
/-! ### what they do -/
/-- the frame of such a def, the error that it is handed -/
structure KinX (Y : Cx) (D : Addr) (oe : Obj) (n : KinN) : Prop where
  N : Y.N = [n.e, n.s, n.l]
  nd : Y.N.Nodup
  le : Y.env.scope.names.lookup n.e = some .local
  ls : Y.env.scope.names.lookup n.s = some .local
  ll : Y.env.scope.names.lookup n.l = some .local
  de : dunder n.e = true
  ds : dunder n.s = true
  dl : dunder n.l = true
  gi : Gl Y "isinstance"
  mi : Y.mg "isinstance" = none
  gz : Gl Y "zip"
  mz : Y.mg "zip" = none
  ex : ExcC Y.K D
  zn : L2N.Zn (.ref D) none oe
  fl : ∃ vs, oe.data = .fields vs
/-- the error is one of the class C, or not -/
def Mk (Y : Cx) (D : Addr) (C : Str) (b : Bool) : Prop := ∃ (vc : V) (cv : Value), Names Y C cv ∧ RelV vc cv ∧ (∀ u, RelV vc u → u = cv) ∧ PySem.W.kitOne Y.K (.ref D) cv = some b
inductive Mks (Y : Cx) (D : Addr) : List Str → List Bool → Prop
  | nil : Mks Y D [] []
  | cons {C : Str} {b : Bool} {Cs : List Str} {bs : List Bool} : Mk Y D C b → Mks Y D Cs bs → Mks Y D (C :: Cs) (b :: bs)
section
variable {Y : Cx} {a D : Addr} {oe : Obj} {pn : List (Addr × Obj)} {n : KinN}
abbrev zx (Y : Cx) (a : Addr) (oe : Obj) (pn : List (Addr × Obj)) : Cx := Y.suite a ((a, oe) :: pn)
/-- a name of a class -/
theorem pe_cls {X : Cx} {C : Str} {vc : V} {cv : Value} {p : Pos} (c : Names X C cv) (r : RelV vc cv) : PE X (.Name C p) (fun σ H Q => Q vc H) := by
  refine ⟨fun pins s σ H Q I got => ?_⟩
  obtain ⟨g, d, m | ⟨m, b, n⟩⟩ := c
  · exact ld_glob I g m ⟨vc, H, I, r, got⟩ d
  · exact ld_blt I g m b ⟨vc, H, I, r, got⟩ n d
theorem KinX.var {x : Str} {i : Nat} {p : Pos} (e1 : Y.N[i]? = some x) (e2 : Y.env.scope.names.lookup x = some .local) (e3 : dunder x = true) : PE (zx Y a oe pn) (.Name x p) (tVar i) := by
  obtain ⟨d1, d2, _⟩ := dunder_eq e3
  exact pe_var (X := zx Y a oe pn) e1 (.inl e2) d1 d2
theorem pe_is (k : KinX Y D oe n) {C : Str} {b : Bool} {x : Expr} (h : isB n C x = true) (m : Mk Y D C b) : PE (zx Y a oe pn) x (fun σ H Q => σ[0]? = some (some (.ref a)) ∧ Q (.bl b) H) := by
  unfold isB at h
  replace h := andO_eq h
  obtain ⟨⟨f, es⟩, hc, h⟩ := h
  simp only [and_tt, decide_eq_true_eq] at h
  obtain ⟨rfl, h⟩ := h
  replace h := andO_eq h
  obtain ⟨⟨y, z⟩, h2, h⟩ := h
  simp only [and_tt, decide_eq_true_eq] at h
  obtain ⟨p, q, rfl⟩ := vCall_eq hc
  obtain rfl := two_eq h2
  obtain ⟨p1, rfl⟩ := vName_eq h.1
  obtain ⟨p2, rfl⟩ := vName_eq h.2
  obtain ⟨vc, cv, c, r, u, e⟩ := m
  have h0 : Y.N[0]? = some n.e := by rw [k.N]; rfl
  have arg1 : PE (zx Y a oe pn) (.Name n.e p1) (tVar 0) := KinX.var h0 k.le k.de
  have arg2 : PE (zx Y a oe pn) (.Name C p2) (fun σ H Q => Q vc H) := pe_cls c r
  have asked := pe_callB (X := zx Y a oe pn) (call_isE k.ex k.zn.zc k.fl) k.gi k.mi PyProof.Rows.boot_isinstance (pos := q) (p := p) (pa_cons arg1 (pa_cons arg2 pa_nil))
  exact peMono asked fun σ H Q ⟨h1, h2⟩ => ⟨_, h1, vc, cv, b, rfl, u, e, h2⟩
theorem isB_star {C : Str} {x : Expr} (h : isB n C x = true) : NoStar x := by
  unfold isB at h
  replace h := andO_eq h
  obtain ⟨⟨f, es⟩, hc, h⟩ := h
  obtain ⟨p, q, rfl⟩ := vCall_eq hc
  intro _ _ z
  cases z
theorem pa_is (k : KinX Y D oe n) : ∀ {Cs : List Str} {bs : List Bool} {es : List Expr}, isBs n Cs es = true → Mks Y D Cs bs → PA (zx Y a oe pn) es (fun σ H Q => σ[0]? = some (some (.ref a)) ∧ Q (bs.map V.bl) H)
  | _, _, [], h, .nil => paMono pa_nil fun σ H Q h => h.2
  | _, _, x :: es, h, .nil => by cases h
  | _, _, [], h, .cons _ _ => by cases h
  | _, _, x :: es, h, .cons m ms => by
    unfold isBs at h
    rw [and_tt] at h
    exact paMono (pa_cons (pe_is k h.1 m) (pa_is k h.2 ms) (star_cons (isB_star h.1) _ _)) fun σ H Q ⟨h1, h2⟩ => ⟨h1, h1, h2⟩
/-- the state between the rows: the marks so far, in a list of this frame -/
def KinAt (a : Addr) (H0 : Hp) (bs : List Bool) (σ : L2.St) (H : Hp) : Prop := σ.length = 3 ∧ σ[0]? = some (some (.ref a)) ∧ (∀ b o, H0 b = some o → H b = some o) ∧ (bs = [] ∨ ∃ l, H0 l = none ∧ σ[1]? = some (some (.ref l)) ∧ H l = some (.lst (bs.map V.bl)))
inductive KinGo (Y : Cx) (D : Addr) : List Bool → KinS → List Bool → Prop
  | set {bs : List Bool} {Cs : List Str} {cs : List Bool} : Mks Y D Cs cs → cs.length ≤ 100 → KinGo Y D bs (.set Cs) cs
  | app {bs : List Bool} {C : Str} {b : Bool} : bs ≠ [] → bs.length ≤ 100 → Mk Y D C b → KinGo Y D bs (.app C) (bs ++ [b])
  | cat {bs : List Bool} {Cs : List Str} {cs : List Bool} : bs ≠ [] → bs.length ≤ 100 → cs.length ≤ 100 → Mks Y D Cs cs → KinGo Y D bs (.cat Cs) (bs ++ cs)
theorem new_ext {H0 H : Hp} {p : Addr} {o : HO} (k : ∀ b o, H0 b = some o → H b = some o) (f : H p = none) : (∀ b o', H0 b = some o' → upd H p o b = some o') ∧ H0 p = none := by
  refine ⟨fun b o' e => (upd_ne (ne_of_none (k b o' e) f)).trans (k b o' e), ?_⟩
  cases q : H0 p with
  | none => rfl
  | some o' => rw [k p o' q] at f; cases f
theorem hundred {k : Nat} (h : k ≤ 200) : k ≤ sizeLine := by rw [sizeLine_eq]; omega
theorem ps_kin (k : KinX Y D oe n) {x : KinS} {bs cs : List Bool} {st : Stmt} (h : kinSB n x st = true) (g : KinGo Y D bs x cs) (H0 : Hp) :
    PS (zx Y a oe pn) st (fun F σ H => KinAt a H0 bs σ H ∧ ∀ σ' H', KinAt a H0 cs σ' H' → F.nx σ' H') := by
  have s1 : (zx Y a oe pn).N[1]? = some n.s := by show Y.N[1]? = _; rw [k.N]; rfl
  have loc : L2.Loc (zx Y a oe pn).env.scope n.s := .inl k.ls
  have nd : (zx Y a oe pn).N.Nodup := k.nd
  have kept : (zx Y a oe pn).fn n.s = true ∨ (zx Y a oe pn).env.scope.names.lookup n.s = some .local := .inr k.ls
  cases g with
  | set ms small =>
    unfold kinSB at h
    replace h := andO_eq h
    obtain ⟨⟨s, e⟩, hs, h⟩ := h
    simp only [and_tt, decide_eq_true_eq] at h
    obtain ⟨rfl, h⟩ := h
    replace h := andO_eq h
    obtain ⟨es, he, h⟩ := h
    obtain ⟨p, q, rfl⟩ := vSet1_eq hs
    obtain ⟨p2, rfl⟩ := vLst_eq he
    refine psMono (ps_set nd s1 loc (pe_lst (pa_is k h ms)) (noComp_sw rfl _ _ _) kept) ?_
    rintro F σ H ⟨⟨len, c0, ext, _⟩, go⟩
    refine ⟨c0, hundred (by rw [List.length_map]; omega), fun l fresh => go _ _ ?_⟩
    obtain ⟨ext2, f0⟩ := new_ext (o := .lst (cs.map V.bl)) ext fresh
    exact ⟨by simpa using len, by simpa using c0, ext2, .inr ⟨l, f0, by simp [len], upd_same⟩⟩
  | app ne small m =>
    rename_i C b
    unfold kinSB at h
    replace h := andO_eq h
    obtain ⟨⟨s, e⟩, hs, h⟩ := h
    simp only [and_tt, decide_eq_true_eq] at h
    obtain ⟨rfl, h⟩ := h
    obtain ⟨np, ap, cp, r, hl, rfl⟩ := vApp_eq hs
    have ns := isB_star h
    have tgt : PE (zx Y a oe pn) (.Name n.s np) (tVar 1) := KinX.var s1 k.ls k.ds
    have call := pe_bm (X := zx Y a oe pn) F.plainAttrs_list F.slot_list_append F.type_list_append mt_append tgt (pa_cons (pe_is k h m) pa_nil (star_cons ns _ _)) (apos := ap) (cpos := cp) rfl (by rw [star_cons ns]; rfl) hl (star_cons ns _ _) rfl
    refine psMono (ps_expr call (noComp_sw rfl _ _ _)) ?_
    rintro F σ H ⟨⟨len, c0, ext, z | ⟨l, f0, cl, hl⟩⟩, go⟩
    · exact absurd z ne
    · refine ⟨.ref l, cl, .inl ⟨rfl, _, SqL.of hl⟩, c0, l, _, .bl b, rfl, rfl, hl, by rw [List.length_map, sizeLine_eq]; omega, go _ _ ⟨len, c0, fun d o e => ?_, .inr ⟨l, f0, cl, ?_⟩⟩⟩
      · exact (upd_ne (ne_of_none e f0)).trans (ext d o e)
      · rw [upd_same, List.map_append]; rfl
  | cat ne small small2 ms =>
    rename_i Cs fs
    unfold kinSB at h
    replace h := andO_eq h
    obtain ⟨⟨s, e⟩, hs, h⟩ := h
    simp only [and_tt, decide_eq_true_eq] at h
    obtain ⟨rfl, h⟩ := h
    replace h := andO_eq h
    obtain ⟨⟨x, o, y⟩, hb, h⟩ := h
    simp only [and_tt, decide_eq_true_eq] at h
    obtain ⟨⟨rfl, hx⟩, h⟩ := h
    replace h := andO_eq h
    obtain ⟨es, he, h⟩ := h
    obtain ⟨p, q, rfl⟩ := vSet1_eq hs
    obtain ⟨p1, rfl⟩ := vBin_eq hb
    obtain ⟨p3, rfl⟩ := vName_eq hx
    obtain ⟨p2, rfl⟩ := vLst_eq he
    have left : PE (zx Y a oe pn) (.Name n.s p3) (tVar 1) := KinX.var s1 k.ls k.ds
    refine psMono (ps_set nd s1 loc (pe_op op_cat left (pe_lst (pa_is k h ms))) (noComp_sw rfl _ _ _) kept) ?_
    rintro F σ H ⟨⟨len, c0, ext, z | ⟨l, f0, cl, hl⟩⟩, go⟩
    · exact absurd z ne
    · refine ⟨.ref l, cl, c0, hundred (by rw [List.length_map]; omega), fun r fresh => ⟨l, r, _, _, rfl, rfl, (upd_ne (ne_of_none hl fresh)).trans hl, upd_same, hundred (by rw [List.length_map, List.length_map]; omega), fun t fresh2 => go _ _ ?_⟩⟩
      obtain ⟨ext2, _⟩ := new_ext (o := .lst (fs.map V.bl)) ext fresh
      obtain ⟨ext3, f3⟩ := new_ext (o := .lst (bs.map V.bl ++ fs.map V.bl)) ext2 fresh2
      exact ⟨by simpa using len, by simpa using c0, ext3, .inr ⟨t, f3, by simp [len], by rw [List.map_append]; exact upd_same⟩⟩
theorem ps_txt (k : KinX Y D oe n) {t : Str} {bs : List Bool} {st : Stmt} (h : kinSB n (.txt t) st = true) (H0 : Hp) :
    PS (zx Y a oe pn) st (fun F σ H => KinAt a H0 bs σ H ∧ ∀ σ', KinAt a H0 bs σ' H → σ'[2]? = some (some (.str t)) → F.nx σ' H) := by
  have s2 : (zx Y a oe pn).N[2]? = some n.l := by show Y.N[2]? = _; rw [k.N]; rfl
  unfold kinSB at h
  replace h := andO_eq h
  obtain ⟨⟨s, e⟩, hs, h⟩ := h
  simp only [and_tt, decide_eq_true_eq] at h
  obtain ⟨rfl, h⟩ := h
  obtain ⟨p, q, rfl⟩ := vSet1_eq hs
  obtain ⟨j, p2, rfl⟩ := vCon_eq h
  refine psMono (ps_set (X := zx Y a oe pn) k.nd s2 (.inl k.ll) pe_str (noComp_sw rfl _ _ _) (.inr k.ll)) ?_
  rintro F σ H ⟨⟨len, c0, ext, z⟩, go⟩
  refine go _ ⟨by simpa using len, by simpa using c0, ext, z.imp (fun e => e) ?_⟩ (by simp [len])
  rintro ⟨l, f0, cl, hl⟩
  exact ⟨l, f0, by simpa using cl, hl⟩
inductive KinRun (Y : Cx) (D : Addr) : List Bool → List KinS → List Bool → Prop
  | nil {bs : List Bool} : KinRun Y D bs [] bs
  | cons {bs cs ds : List Bool} {x : KinS} {xs : List KinS} : KinGo Y D bs x cs → KinRun Y D cs xs ds → KinRun Y D bs (x :: xs) ds
theorem pss_kin (k : KinX Y D oe n) (H0 : Hp) : ∀ {xs : List KinS} {bs cs : List Bool} {ss : List Stmt}, kinSsB n xs ss = true → KinRun Y D bs xs cs → PSs (zx Y a oe pn) ss (fun F σ H => KinAt a H0 bs σ H ∧ ∀ σ' H', KinAt a H0 cs σ' H' → F.nx σ' H')
  | [], _, _, [], _, .nil => pssMono pss_nil fun F σ H ⟨h, go⟩ => go _ _ h
  | x :: xs, _, _, [], h, _ => by cases h
  | [], _, _, s :: ss, h, _ => by cases h
  | x :: xs, _, _, s :: ss, h, .cons g r => by
    unfold kinSsB at h
    rw [and_tt] at h
    exact pssMono (pss_cons (ps_kin k h.1 g H0) (pss_kin k H0 h.2 r)) fun F σ H ⟨at_, go⟩ => ⟨at_, fun σ' H' at1 => ⟨at1, go⟩⟩
theorem vals_strs : ∀ {ws : List Str} {us : List Value}, Vals (ws.map V.str) us → ∀ bs : List Bool, Vals ((pick ws bs).map V.str) (pick us bs)
  | [], _, .nil, bs => by cases bs <;> exact .nil
  | w :: ws, _, .cons r rs, [] => .nil
  | w :: ws, _, .cons r rs, b :: bs => by
    have ih := vals_strs rs bs
    cases b
    · exact ih
    · exact .cons r ih
theorem vals_bools : ∀ {bs : List Bool} {us : List Value}, Vals (bs.map V.bl) us → us = bs.map Value.bool
  | [], _, .nil => rfl
  | b :: bs, _, .cons r rs => by cases r; rw [vals_bools rs]; rfl
theorem pick_le {α : Type} (xs : List α) (bs : List Bool) : (pick xs bs).length ≤ xs.length := by
  unfold pick
  rw [List.length_map]
  refine Nat.le_trans (List.length_filter_le _ _) ?_
  rw [List.length_zip]
  exact Nat.min_le_left _ _
theorem kinSc {x y : Str} {sc : Scope} (h : kinScB x y sc = true) : sc.kind = .function ∧ (∀ z ∈ sc.names, z.2 ≠ .cell ∧ z.2 ≠ .free ∧ (z.2 = .local → sc.names.lookup z.1 = some .local)) ∧ sc.names.lookup x = some .local ∧ sc.names.lookup y = some .local ∧ x ≠ y ∧ dunder x = true ∧ dunder y = true := by
  simp only [kinScB, and_tt, decide_eq_true_eq, List.all_eq_true, Bool.or_eq_true, Bool.not_eq_true', decide_eq_false_iff_not] at h
  rcases h with ⟨⟨⟨⟨⟨⟨h1, h2⟩, h3⟩, h4⟩, h5⟩, h6⟩, h7⟩
  exact ⟨h1, fun z hz => ⟨(h2 z hz).1.1, (h2 z hz).1.2, fun e => (h2 z hz).2.resolve_left fun q => q e⟩, h3, h4, h5, h6, h7⟩
/-- the labels of the marks that are true, in one text -/
theorem ps_told (k : KinX Y D oe n) {x y : Str} {st : Stmt} (h : kinRB n x y st = true) (H0 : Hp) (t : Str) (bs : List Bool) (ne : bs ≠ []) (many : (Txt.split t " ").length = bs.length) (small : t.length + 2 ≤ sizeLine)
    (sum : ((pick (Txt.split t " ") bs).map (·.length)).sum + (pick (Txt.split t " ") bs).length * (" " : Str).length ≤ 16777216) :
    PS (zx Y a oe pn) st (fun F σ H => KinAt a H0 bs σ H ∧ σ[2]? = some (some (.str t)) ∧ ∀ H', (∀ b o, H0 b = some o → H' b = some o) → F.rt (.str (Txt.join " " (pick (Txt.split t " ") bs))) H') := by
  have s1 : (zx Y a oe pn).N[1]? = some n.s := by show Y.N[1]? = _; rw [k.N]; rfl
  have s2 : (zx Y a oe pn).N[2]? = some n.l := by show Y.N[2]? = _; rw [k.N]; rfl
  unfold kinRB at h
  replace h := andO_eq h
  obtain ⟨o, hr, h⟩ := h
  replace h := andO_eq h
  obtain ⟨e, rfl, h⟩ := h
  replace h := andO_eq h
  obtain ⟨⟨sep, jn, lc⟩, hm, h⟩ := h
  simp only [and_tt, decide_eq_true_eq] at h
  obtain ⟨⟨h1, rfl⟩, h⟩ := h
  replace h := andO_eq h
  obtain ⟨⟨elt, tgt, it, ifs, sc⟩, hlc, h⟩ := h
  simp only [and_tt, decide_eq_true_eq] at h
  obtain ⟨⟨⟨⟨helt, htgt⟩, hif⟩, hsc⟩, h⟩ := h
  replace htgt := andO_eq htgt
  obtain ⟨ts, ht1, htgt⟩ := htgt
  replace htgt := andO_eq htgt
  obtain ⟨⟨t1, t2⟩, ht2, htgt⟩ := htgt
  simp only [and_tt, decide_eq_true_eq] at htgt
  replace hif := andO_eq hif
  obtain ⟨i1, hi1, hif⟩ := hif
  simp only [decide_eq_true_eq] at hif
  replace h := andO_eq h
  obtain ⟨⟨zn, zs⟩, hz, h⟩ := h
  simp only [and_tt, decide_eq_true_eq] at h
  obtain ⟨rfl, h⟩ := h
  replace h := andO_eq h
  obtain ⟨⟨z1, z2⟩, hz2, h⟩ := h
  simp only [and_tt, decide_eq_true_eq] at h
  obtain ⟨hs, h⟩ := h
  replace h := andO_eq h
  obtain ⟨⟨lb, sn, sp⟩, hsp, h⟩ := h
  simp only [and_tt, decide_eq_true_eq] at h
  obtain ⟨⟨hlb, rfl⟩, hsp2⟩ := h
  obtain ⟨q1, rfl⟩ := vRet_eq hr
  obtain ⟨ap, cp, line, rfl⟩ := vMth_eq hm
  obtain ⟨j1, q2, rfl⟩ := vCon_eq h1
  obtain ⟨q3, rfl⟩ := vLc_eq hlc
  obtain ⟨q4, rfl⟩ := vName_eq helt
  obtain ⟨j2, q5, rfl⟩ := vTup_eq ht1
  obtain rfl := two_eq ht2
  obtain ⟨q6, rfl⟩ := vName_eq htgt.1
  obtain ⟨q7, rfl⟩ := vName_eq htgt.2
  obtain rfl := one_eq hi1
  obtain ⟨q8, rfl⟩ := vName_eq hif
  obtain ⟨q9, q10, rfl⟩ := vCall_eq hz
  obtain rfl := two_eq hz2
  obtain ⟨q11, rfl⟩ := vName_eq hs
  obtain ⟨ap2, cp2, line2, rfl⟩ := vMth_eq hsp
  obtain ⟨q12, rfl⟩ := vName_eq hlb
  obtain ⟨j3, q13, rfl⟩ := vCon_eq hsp2
  obtain ⟨fn, own, lx, ly, ne2, dx, dy⟩ := kinSc hsc
  have lbl : PE (zx Y a oe pn) (.Name n.l q12) (tVar 2) := KinX.var s2 k.ll k.dl
  have mks : PE (zx Y a oe pn) (.Name n.s q11) (tVar 1) := KinX.var s1 k.ls k.ds
  have parts := pe_split (X := zx Y a oe pn) lbl (pe_str (x := " ") (j := j3) (pos := q13)) (by rfl) (by rfl) line2
  have args := pa_cons parts (pa_cons mks pa_nil)
  have comp : PE (zx Y a oe pn) (.ListComp (.Name x q4) [⟨.Tuple [.Name x q6, .Name y q7] j2 q5, .Call (.Name "zip" q9) [.Call (.Attribute (.Name n.l q12) "split" ap2) [.Constant (.str " ") j3 q13] [] cp2, .Name n.s q11] [] q10, [.Name y q8], 0⟩] sc q3)
      (fun σ H Q => KinAt a H0 bs σ H ∧ σ[2]? = some (some (.str t)) ∧ ∀ p H', (∀ b o, H0 b = some o → H' b = some o) → H' p = some (.lst ((pick (Txt.split t " ") bs).map V.str)) → Q (.ref p) H') := by
    refine ⟨fun pins s σ H Q I want => ?_⟩
    obtain ⟨⟨len, c0, ext, z⟩, c2, go⟩ := want
    obtain ⟨l, f0, cl, hl⟩ := z.resolve_left ne
    refine ListComp_goes (closure_ok fun v hv z => absurd z (own v hv).2.1) (fun v hv => (own v hv).1) fn (fun v hv => (own v hv).2.2) ?_ (by intro _; rfl)
    refine Call_ (ld_blt I k.gz k.mz PyProof.Rows.boot_zip (PyProof.Rows.callWith_type1 ?_))
    refine thn (args.run q10 pins s σ H (fun vs H2 => ∃ p, H p = none ∧ vs = [.ref p, .ref l] ∧ H2 = upd H p (.lst ((Txt.split t " ").map V.str))) I ⟨.str t, c2, ⟨t, rfl⟩, t, " ", rfl, rfl, by decide, small, fun p fresh => ⟨.ref l, cl, p, fresh, rfl, rfl⟩⟩) ?_
    rintro us s1 ⟨_, _, I1, r, p, fresh, rfl, rfl⟩
    cases r with
    | cons r1 rs =>
      cases rs with
      | cons r2 rs =>
        cases rs
        cases r1
        cases r2
        obtain ⟨ws, v1, l1, z1⟩ := I1.list (SqL.of upd_same)
        obtain ⟨us, v2, l2, z2⟩ := I1.list (SqL.of ((upd_ne (ne_of_none hl fresh)).trans hl))
        obtain rfl := vals_bools v2
        obtain ⟨vs, hv⟩ := k.fl
        have pin := (I1.pin (a, oe) (List.mem_append_left _ List.mem_cons_self)).1
        have nlen : ws.length = bs.length := by rw [← v1.length, List.length_map, many]
        refine picked_hot (x1 := a) ⟨rfl, oe, vs, pin, hv, k.zn.2.2 vs hv⟩ fn lx ly ne2 (dunder_eq dx).1 (dunder_eq dy).1 l1.isList l2.isList (by rw [← v1.length]; exact z1) nlen ?_
        intro E' h' tk new ⟨m, there⟩ kept
        have ext1 := (new_ext (o := .lst ((Txt.split t " ").map V.str)) ext fresh).1
        have J := I1.laid (a := E') (o := .lst ((pick (Txt.split t " ") bs).map V.str)) (t' := tk) kept new ⟨by rw [List.length_map]; exact Nat.le_trans (pick_le _ _) (by rw [List.length_map] at z1; exact z1), _, m, vals_strs v1 bs, there⟩
        exact ⟨.ref E', _, J, rfl, go E' _ (new_ext ext1 (I1.hok.fresh new)).1 upd_same⟩
  have told := pe_join (X := zx Y a oe pn) (pe_str (x := " ") (j := j1) (pos := q2)) comp (by rfl) (by rfl) line
  refine psMono (ps_ret told) ?_
  rintro F σ H ⟨at_, c2, go⟩
  exact ⟨⟨_, rfl⟩, at_, c2, fun p H' ext hp => ⟨" ", p, _, rfl, rfl, .inl (SqL.of hp), sum, go H' ext⟩⟩
end
/-! ### its call -/
/-- a context in which the error a is already the one that is handled -/
theorem mark_same (A : Around) (v : Value) (h : A.handled = some v) : A.mark (some v) = A := by
  cases A
  cases h
  rfl
section
variable {P : Program} {w : World} {K : Frag} {mg : Str → Option Value} {base : Heap} {CX : CXT} {f : Addr} {x qual : Str} {params : Arguments} {body : List Stmt} {scope : Scope} {fd : FuncData} {N ps : List Str}
/-- a def called while a is handled: its body is read as an except suite's -/
theorem enter_hot {A : Around} {outer : List Env} {s : Shared} {H : Hp} {us : List Value} {vs : List V} {Q : VK} {E : XK} {a : Addr} {oe : Obj} {k : Nat} (F : FunD K x qual params body scope [] [] f fd) (S : FnScope N ps scope) (bind : Binds K fd ps [])
    (room : L2H.RoomH (k + 1) A) (hot : A.handled = some (.ref a)) (pin : L2H.PinOk outer H s (a, oe)) (e0 : Env0 P w K mg base A outer s H) (r : Vals vs us) (len : vs.length = ps.length)
    (bodyOk : ∀ cd, ∃ t, PSs (zx (cxOf CX P w K mg base N qual scope f cd A outer s H E) a oe []) body t ∧ t { nx := fun _ H' => Q .non H', rt := Q } (L2.start N vs) H) :
    codeAny (model P w) A (.call (.ref f) ⟨us, []⟩) (CR CX outer P w H s Q E) s := by
  obtain ⟨_, _, _, _, _, _, _, cd, _, _, rfl, there, code, _⟩ := F.ex
  have inK : K.In s.heap := e0.mod.kin.keeps fun _ _ z => (e0.bs _ _ z).1
  have bound := bind s us inK (by rw [List.append_nil, ← r.length]; exact len)
  rw [List.append_nil] at bound
  have limit : s.heap.NoLimit := e0.mod.nolimit.keeps fun _ _ z => (e0.bs _ _ z).1
  have places : ∀ y ∈ ps.zip us, scope.names.lookup y.1 = some .local ∨ (scope.names.lookup y.1 = some .cell ∧ ((cellsFrom (s.heap.objs.size + 1) scope.names []).lookup y.1).isSome = true) := by
    rintro ⟨y, u⟩ m
    exact (S.par y (List.of_mem_zip m).1).imp (fun z => z) fun z => ⟨z, PySem.W.cellsFrom_some _ _ _ (.inl z)⟩
  obtain ⟨t, ok, want⟩ := bodyOk cd
  refine codeAny_call_function room.depth (inK _ _ there) rfl S.co S.gen rfl (PySem.W.codeRec_of inK code) (bound _ _ _ _ ?_)
  refine wpAny_newFunctionEnv_cells S.kind places ?_
  rintro _ rfl s1 laid
  refine ⟨limit.keeps laid.toInCall.keep, codeAny_func ?_⟩
  have J := L2H.inv_startH (CX := CX) (cd := cd) (E := E) S pin e0 len r laid
  have J2 : Inv (zx (cxOf CX P w K mg base N qual scope f cd A outer s H E) a oe []) [] (L2.start N vs) H s1 := ⟨J.ok.suite a [(a, oe)], J.os, J.bare, J.base, J.loc, J.cell, J.free, J.freeC, J.pin, J.hok, J.len⟩
  have ran := ok.run [] s1 _ H _ J2 want
  have same : (A.deeper (envOfC qual scope s.heap.objs.size f cd)).mark (some (.ref a)) = A.deeper (envOfC qual scope s.heap.objs.size f cd) := mark_same _ _ hot
  have ran : wpAny (model P w) (A.deeper (envOfC qual scope s.heap.objs.size f cd)) (execs body (envOfC qual scope s.heap.objs.size f cd)) (SP (zx (cxOf CX P w K mg base N qual scope f cd A outer s H E) a oe []) [] { nx := fun _ H' => Q .non H', rt := Q }) (fun _ _ => False) s1 := by
    rw [← same]
    exact ran
  refine wpAny_mono ran (fun
    | .ret u, s', ⟨v, _, H', I, rv, q⟩ => ⟨v, H', I.os, I.bare, I.base, I.hok, rv, q⟩
    | .next, s', ⟨_, H', I, q⟩ => ⟨.non, H', I.os, I.bare, I.base, I.hok, rfl, q⟩
    | .brk, s', ⟨_, _, _, q⟩ => q.elim
    | .cont, s', ⟨_, _, _, q⟩ => q.elim) fun _ _ z => z.elim
end
end Snd
end
section
set_option maxRecDepth 100000
set_option maxHeartbeats 4000000
/-! SndT: try with two clauses that name the error. -/
namespace Snd
open PySem PySem.Spec PyProof.Rows L2
open Mini (D Sl Xc Res SRes Ex Ar Itr Stm Tgt Prim)
section
variable {X : Cx} {pins : List (Addr × Obj)} {σ : L2.St} {H : Hp} {a : Addr} {cls : Value} {d : Option Addr} {s : Shared}
/-- an error of the body, on the ground: sI is the state without it -/
structure Down (X : Cx) (pins : List (Addr × Obj)) (σ : L2.St) (H : Hp) (a : Addr) (cls : Value) (d : Option Addr) (s : Shared) : Prop where
  ex : ∃ (B : Heap) (sI : Shared), Inv X pins σ H sI ∧ (∀ b o, sI.heap.get? b = some o → b ∉ frs X.stack → B.get? b = some o) ∧ sI.heap.UpToSlots s.heap ∧ HandSPX.FlyingZ B (X.env :: X.outer) a (L2N.Zn cls d) s.heap ∧ s.os = sI.os ∧ AllBare s.gens
  free : H a = none
theorem Down.inv (h : Down X pins σ H a cls d s) : Inv X pins σ H s := by
  obtain ⟨B, sI, I, nb, up, fly, os, bare⟩ := h.ex
  exact I.landed nb fly.1 up os bare
theorem Down.obj (h : Down X pins σ H a cls d s) : ∃ oe vs, s.heap.get? a = some oe ∧ L2N.Zn cls d oe ∧ oe.data = .fields vs := by
  obtain ⟨_, _, _, _, _, fly, _⟩ := h.ex
  exact fly.there
/-- it is no frame -/
theorem Down.off (hf : X.env.frame = some X.env.locals) (h : Down X pins σ H a cls d s) : a ≠ X.env.locals ∧ a ∉ X.fs := by
  obtain ⟨oe, vs, g, _, dt⟩ := h.obj
  obtain ⟨_, _, _, _, _, fly, _⟩ := h.ex
  have out : a ∉ frs (X.env :: X.outer) := fun m => by
    obtain ⟨_, o, g2, nf⟩ := fly.2.2.1.mem m
    rw [g] at g2
    cases g2
    exact nf _ dt
  constructor
  · intro e
    exact out (List.mem_filterMap.2 ⟨X.env, List.mem_cons_self, e ▸ hf⟩)
  · intro m
    obtain ⟨env, me, e⟩ := List.mem_filterMap.1 m
    exact out (List.mem_filterMap.2 ⟨env, List.mem_cons_of_mem _ me, e⟩)
/-- its suite may begin -/
theorem Down.suite (hf : X.env.frame = some X.env.locals) (h : Down X pins σ H a cls d s) : ∃ oe, L2N.Zn cls d oe ∧ (∃ vs, oe.data = .fields vs) ∧ Inv (zx X a oe (X.pn ++ pins)) [] σ H s := by
  obtain ⟨oe, vs, g, z, dt⟩ := h.obj
  obtain ⟨n1, n2⟩ := h.off hf
  exact ⟨oe, z, ⟨vs, dt⟩, h.inv.suite g dt h.free n1 n2⟩
/-- brought down once more -/
theorem Down.again {M : Model} {A : Around} {E : Value → Shared → Prop} {Q : Unit → Shared → Prop} (h : Down X pins σ H a cls d s) (go : ∀ h', Down X pins σ H a cls d { s with heap := h' } → Q () { s with heap := h' }) : wpAny M A (setFlight (.ref a) none) Q E s := by
  obtain ⟨B, sI, I, nb, up, fly, os, bare⟩ := h.ex
  exact HandSPX.lands_againZ fly fun h' fly' up' => go h' ⟨⟨B, sI, I, nb, up.trans up', fly', os, bare⟩, h.free⟩
/-- out of the air -/
theorem down_of {W : WX} {xe : Value → Shared → Prop} {u : Value} {E : Value → Shared → Prop} (hs : X.stack = X.env :: X.outer) (hf : X.env.frame = some X.env.locals) (ok : X.Ok) (x : L2N.XE (X.tr (X.pn ++ pins) xe) W u s) {Q : Shared → Prop}
    (go : ∀ a σ' H' cls d s', u = .ref a → Down X pins σ' H' a cls d s' → W cls d σ' H' → Q s') :
    wpAny (model X.prog X.w) X.A (noteFrame u X.env) (fun _ s2 => wpAny (model X.prog X.w) X.A (setFlight u none) (fun _ s3 => Q s3) E s2) E s := by
  obtain ⟨a, B, sI, pins', σ', H', cls, d, rfl, J, nb, up, sky, na, os, bare, w⟩ := x
  have frames : X.A.frames = some (X.env :: X.outer) := ok.frames.trans (congrArg some hs)
  have sky : Sky B (X.env :: X.outer) a (L2N.Zn cls d) X.env.locals s.heap := hs ▸ sky
  exact L2N.Sky.land L2N.Zn.steady frames hf sky fun h' fly up' => go a σ' H' cls d _ rfl ⟨⟨B, sI, J.ofTry ok, nb, up.trans up', fly, os, bare⟩, na⟩ w
/-- the clause is asked whether the error is its -/
theorem clause_asked {x nm : Str} {cv : Value} {b : Bool} {np pos : Pos} {b0 : Stmt} {rest : List Stmt} {hds : List ExceptHandler} {Q : Flow → Shared → Prop} {E : Value → Shared → Prop} (hf : X.env.frame = some X.env.locals) (c : Names X x cv) (h : Down X pins σ H a cls d s) (e : PySem.W.exmOne X.K cls cv = some b)
    (go : if b = true then codeAny (model X.prog X.w) (X.A.mark (some (.ref a))) (.handlers (.ref a) [.ExceptHandler none (some nm) (b0 :: rest) pos] X.env) (fun r s2 => match r with
        | .ok f => wpAny (model X.prog X.w) X.A (do bindName X.env nm .none; unbindBehindTheSuite X.env nm pos) (fun _ s3 => Q f s3) E s2
        | .error y => cameBackBy (model X.prog X.w) X.A X.env E y s2) s
      else wpAny (model X.prog X.w) X.A (handleBy (.ref a) X.env hds) Q E s) :
    wpAny (model X.prog X.w) X.A (handleBy (.ref a) X.env (.ExceptHandler (some (.Name x np)) (some nm) (b0 :: rest) pos :: hds)) Q E s := by
  obtain ⟨oe, z, _, S⟩ := h.suite hf
  have here : s.heap.get? a = some oe := (S.pin (a, oe) (List.mem_append_left _ List.mem_cons_self)).1
  have typed : PySem.W.Looks (model X.prog X.w) s.heap (typeOf (.ref a)) cls := fun A Q E s1 k q => wpAny_typeOf_ref (k _ _ here) (by rw [z.1]; exact q)
  have says := PySem.W.exm_one (M := model X.prog X.w) h.inv.kIn typed e
  refine wpAny_handleBy_cons (codeAny_handlers_test ?_) (by intro z; cases z)
  have named : ∀ {Q' : Value → Shared → Prop} {E' : Value → Shared → Prop}, Q' cv s → wpAny (model X.prog X.w) (X.A.mark (some (.ref a))) (eval (.Name x np) X.env) Q' E' s := by
    intro Q' E' q
    obtain ⟨g, dd, m | ⟨m, bt, nn⟩⟩ := c
    · exact ld_glob S g m q dd
    · exact ld_blt S g m bt q nn dd
  refine named (says.here ?_)
  cases b <;> exact go
/-- the clause's suite, its end -/
theorem clause_runs {nm : Str} {i : Nat} {pos : Pos} {b0 : Stmt} {rest : List Stmt} {F : Ends} {t : TS} (hf : X.env.frame = some X.env.locals) (hN : X.N.Nodup) (hi : X.N[i]? = some nm) (hln : X.env.kindOf nm = some .local) (h : Down X pins σ H a cls d s)
    (suite : ∀ oe pn, L2N.Zn cls d oe → (∃ vs, oe.data = .fields vs) → PSs (zx X a oe pn) (b0 :: rest) t) (want : t { nx := fun σ2 H2 => F.nx (σ2.set i none) H2, rt := fun _ _ => False } (σ.set i (some (.ref a))) H) :
    codeAny (model X.prog X.w) (X.A.mark (some (.ref a))) (.handlers (.ref a) [.ExceptHandler none (some nm) (b0 :: rest) pos] X.env) (fun r s2 => match r with
        | .ok f => wpAny (model X.prog X.w) X.A (do bindName X.env nm .none; unbindBehindTheSuite X.env nm pos) (fun _ s3 => SP X pins F f s3) X.xe s2
        | .error y => cameBackBy (model X.prog X.w) X.A X.env X.xe y s2) s := by
  refine codeAny_handlers_suite_as (h.again fun h4 g => ?_)
  obtain ⟨oe, z, dt, S⟩ := g.suite hf
  refine store_ok (X := zx X a oe (X.pn ++ pins)) (v := .ref a) S hN hi (.inl hln) rfl (fun s5 S5 => ?_) (.inr hln)
  refine wpAny_mono ((suite oe (X.pn ++ pins) z dt).run [] s5 _ H _ S5 want) ?_ fun _ _ no => no.elim
  rintro (_ | _ | _ | u) s6 hs
  · obtain ⟨σ6, H6, S6, q⟩ := hs
    exact gone_ok (S6.unsuite h.inv.ok) hN hi hln fun s7 J => ⟨_, _, J, q⟩
  · obtain ⟨_, _, _, q⟩ := hs
    exact q.elim
  · obtain ⟨_, _, _, q⟩ := hs
    exact q.elim
  · obtain ⟨_, _, _, _, _, q⟩ := hs
    exact q.elim
/-- what each clause wants -/
def wTwo (K : Frag) (c1 c2 : Value) (i : Nat) (t1 t2 : Addr → Value → Option Addr → TS) (F : Ends) : WX := fun cls d σ H =>
  (PySem.W.exmOne K cls c1 = some true ∧ ∀ a, H a = none → t1 a cls d { nx := fun σ2 H2 => F.nx (σ2.set i none) H2, rt := fun _ _ => False } (σ.set i (some (.ref a))) H) ∨
  (PySem.W.exmOne K cls c1 = some false ∧ PySem.W.exmOne K cls c2 = some true ∧ ∀ a, H a = none → t2 a cls d { nx := fun σ2 H2 => F.nx (σ2.set i none) H2, rt := fun _ _ => False } (σ.set i (some (.ref a))) H)
theorem ps_try2 {x1 x2 nm : Str} {c1 c2 : Value} {i : Nat} {body r1 r2 : List Stmt} {b1 b2 : Stmt} {np1 np2 p1 p2 pos : Pos} {tb : WX → TS} {t1 t2 : Addr → Value → Option Addr → TS} (hs : X.stack = X.env :: X.outer) (hf : X.env.frame = some X.env.locals) (hN : X.N.Nodup) (hi : X.N[i]? = some nm) (hln : X.env.kindOf nm = some .local)
    (n1 : Names X x1 c1) (n2 : Names X x2 c2) (hb : ∀ (W : WX) (pn : List (Addr × Obj)) (xe : Value → Shared → Prop), L2N.Takes (X.tr pn xe) W → PSs (X.tr pn xe) body (tb W))
    (s1 : ∀ a oe cls d pn, L2N.Zn cls d oe → (∃ vs, oe.data = .fields vs) → PSs (zx X a oe pn) (b1 :: r1) (t1 a cls d)) (s2 : ∀ a oe cls d pn, L2N.Zn cls d oe → (∃ vs, oe.data = .fields vs) → PSs (zx X a oe pn) (b2 :: r2) (t2 a cls d)) :
    PS X (.Try body [.ExceptHandler (some (.Name x1 np1)) (some nm) (b1 :: r1) p1, .ExceptHandler (some (.Name x2 np2)) (some nm) (b2 :: r2) p2] [] [] pos) (fun F σ H => tb (wTwo X.K c1 c2 i t1 t2 F) F σ H) := by
  refine ⟨fun pins s σ H F I h => wpAny_Try_except ?_⟩
  have ran := (hb (wTwo X.K c1 c2 i t1 t2 F) (X.pn ++ pins) (fun e s₁ => wpAny (model X.prog X.w) X.A (noteFrame e X.env) (fun _ s₂ => wpAny (model X.prog X.w) X.A (setFlight e none) (fun _ s₃ =>
    wpAny (model X.prog X.w) X.A (handleBy e X.env [.ExceptHandler (some (.Name x1 np1)) (some nm) (b1 :: r1) p1, .ExceptHandler (some (.Name x2 np2)) (some nm) (b2 :: r2) p2]) (SP X pins F) X.xe s₃) X.xe s₂) X.xe s₁) ?_).run [] s σ H F (I.toTry _) h
  · refine wpAny_mono ran ?_ fun _ _ z => z
    rintro (_ | _ | _ | u) s1 hsp
    · obtain ⟨σ', H', J, q⟩ := hsp
      exact wpAny_execs_nil ⟨σ', H', J.ofTry I.ok, q⟩
    · obtain ⟨σ', H', J, q⟩ := hsp
      exact ⟨σ', H', J.ofTry I.ok, q⟩
    · obtain ⟨σ', H', J, q⟩ := hsp
      exact ⟨σ', H', J.ofTry I.ok, q⟩
    · obtain ⟨v, σ', H', J, r, q⟩ := hsp
      exact ⟨v, σ', H', J.ofTry I.ok, r, q⟩
  · intro u s' x
    refine down_of hs hf I.ok x fun a σ' H' cls d s3 eu dn w => ?_
    subst eu
    rcases w with ⟨e1, w⟩ | ⟨e1, e2, w⟩
    · exact clause_asked hf n1 dn e1 (clause_runs hf hN hi hln dn (fun oe pn => s1 a oe cls d pn) (w a dn.free))
    · exact clause_asked hf n1 dn e1 (clause_asked hf n2 dn e2 (clause_runs hf hN hi hln dn (fun oe pn => s2 a oe cls d pn) (w a dn.free)))
end
end Snd
end
section
set_option maxRecDepth 100000
set_option maxHeartbeats 4000000
/-! SndY: the two defs that name an error, read whole. -/
namespace Snd
open PySem PySem.Spec PyProof.Rows L2
open Mini (D Sl Xc Res SRes Ex Ar Itr Stm Tgt Prim)
/-! ### the kind told -/
/-- such a def: its frame's names, the comprehension's, its rows, the labels -/
structure KinI where
  n : KinN
  x : Str
  y : Str
  ks : List KinS
  t : Str
def kinClasses : List KinS → List Str
  | [] => []
  | .set Cs :: r => Cs ++ kinClasses r
  | .app C :: r => C :: kinClasses r
  | .cat Cs :: r => Cs ++ kinClasses r
  | .txt _ :: r => kinClasses r
def kinBodyB (i : KinI) : List KinS → List Stmt → Bool
  | [], ss => andO (two' ss) fun q => kinSB i.n (.txt i.t) q.1 && kinRB i.n i.x i.y q.2
  | k :: ks, s :: ss => kinSB i.n k s && kinBodyB i ks ss
  | _ :: _, [] => false
def kinDB (i : KinI) (di : DI) : Bool := fnScB di.N di.ps di.scope && decide (di.N = [i.n.e, i.n.s, i.n.l]) && decide (di.ps = [i.n.e]) && decide (di.scope.names.lookup i.n.e = some .local) && decide (di.scope.names.lookup i.n.s = some .local) &&
  decide (di.scope.names.lookup i.n.l = some .local) && dunder i.n.e && dunder i.n.s && dunder i.n.l && decide (di.scope.names.lookup ("isinstance" : Str) = some .globalImplicit) && decide (di.scope.names.lookup ("zip" : Str) = some .globalImplicit) &&
  (kinClasses i.ks).all (fun C => decide (di.scope.names.lookup C = some .globalImplicit) && dunder C) && kinBodyB i i.ks di.body
/-- the marks, by what each class says -/
def runK (fl : Str → Bool) : List Bool → List KinS → Option (List Bool)
  | bs, [] => some bs
  | _, .set Cs :: r => if decide (Cs.length ≤ 100) then runK fl (Cs.map fl) r else none
  | bs, .app C :: r => if !bs.isEmpty && decide (bs.length ≤ 100) then runK fl (bs ++ [fl C]) r else none
  | bs, .cat Cs :: r => if !bs.isEmpty && decide (bs.length ≤ 100) && decide (Cs.length ≤ 100) then runK fl (bs ++ Cs.map fl) r else none
  | _, .txt _ :: _ => none
/-- the words for an error whose classes are these -/
def kinTold (i : KinI) (fl : Str → Bool) : Option Str := (runK fl [] i.ks).bind fun bs =>
  let ws := Txt.split i.t " "
  if !bs.isEmpty && decide (ws.length = bs.length) && decide (i.t.length + 2 ≤ sizeLine) && decide (((pick ws bs).map (·.length)).sum + (pick ws bs).length * (" " : Str).length ≤ 16777216) then some (Txt.join " " (pick ws bs)) else none
section
variable {Y : Cx} {a Dc : Addr} {oe : Obj} {pn : List (Addr × Obj)}
theorem mks_of {fl : Str → Bool} : ∀ {Cs : List Str}, (∀ C ∈ Cs, Mk Y Dc C (fl C)) → Mks Y Dc Cs (Cs.map fl)
  | [], _ => .nil
  | C :: Cs, h => .cons (h C List.mem_cons_self) (mks_of fun D hD => h D (List.mem_cons_of_mem _ hD))
theorem run_of {fl : Str → Bool} : ∀ {ks : List KinS} {bs cs : List Bool}, (∀ C ∈ kinClasses ks, Mk Y Dc C (fl C)) → runK fl bs ks = some cs → KinRun Y Dc bs ks cs
  | [], bs, cs, _, e => by cases e; exact .nil
  | .set Cs :: r, bs, cs, h, e => by
    unfold runK at e
    split at e
    · rename_i q
      refine .cons (.set (mks_of fun C hC => h C (List.mem_append_left _ hC)) ?_) (run_of (fun C hC => h C (List.mem_append_right _ hC)) e)
      rw [List.length_map]; exact of_decide_eq_true q
    · cases e
  | .app C :: r, bs, cs, h, e => by
    unfold runK at e
    split at e
    · rename_i q
      rw [and_tt] at q
      exact .cons (.app (by intro z; rw [z] at q; exact absurd q.1 (by simp)) (of_decide_eq_true q.2) (h C List.mem_cons_self)) (run_of (fun D hD => h D (List.mem_cons_of_mem _ hD)) e)
    · cases e
  | .cat Cs :: r, bs, cs, h, e => by
    unfold runK at e
    split at e
    · rename_i q
      simp only [and_tt, decide_eq_true_eq] at q
      refine .cons (.cat (by intro z; rw [z] at q; exact absurd q.1.1 (by simp)) q.1.2 ?_ (mks_of fun C hC => h C (List.mem_append_left _ hC))) (run_of (fun C hC => h C (List.mem_append_right _ hC)) e)
      rw [List.length_map]; exact q.2
    · cases e
  | .txt _ :: _, bs, cs, _, e => by unfold runK at e; cases e
theorem pss_kinBody {i : KinI} (k : KinX Y Dc oe i.n) (H0 : Hp) {fl : Str → Bool} {w : Str} (hw : kinTold i fl = some w) {body : List Stmt} : ∀ {ks : List KinS} {bs : List Bool} {ss : List Stmt}, kinBodyB i ks ss = true → (∀ cs, runK fl [] i.ks = some cs → KinRun Y Dc bs ks cs) →
    PSs (zx Y a oe pn) ss (fun F σ H => KinAt a H0 bs σ H ∧ ∀ H', (∀ b o, H0 b = some o → H' b = some o) → F.rt (.str w) H')
  | [], bs, ss, h, run => by
    unfold kinBodyB at h
    replace h := andO_eq h
    obtain ⟨⟨s1, s2⟩, e, h⟩ := h
    obtain rfl := two_eq e
    rw [and_tt] at h
    obtain ⟨cs, hr, hw⟩ := Option.bind_eq_some_iff.mp hw
    have r := run cs hr
    cases r
    dsimp only at hw
    split at hw
    · rename_i q
      simp only [and_tt, decide_eq_true_eq] at q
      obtain ⟨⟨⟨ne, many⟩, small⟩, sum⟩ := q
      cases hw
      have ne : bs ≠ [] := by intro z; rw [z] at ne; exact absurd ne (by simp)
      exact pssMono (pss_cons (ps_txt k h.1 H0) (pss_one (ps_told k h.2 H0 i.t bs ne many small sum))) fun F σ H ⟨at_, go⟩ => ⟨at_, fun σ' at1 c2 => ⟨at1, c2, go⟩⟩
    · cases hw
  | x :: ks, bs, [], h, _ => by unfold kinBodyB at h; cases h
  | x :: ks, bs, s :: ss, h, run => by
    unfold kinBodyB at h
    rw [and_tt] at h
    cases er : runK fl [] i.ks with
    | none =>
      unfold kinTold at hw
      rw [er] at hw
      cases hw
    | some cs =>
      have r := run cs er
      cases r with
      | cons g r => exact pssMono (pss_cons (ps_kin k h.1 g H0) (pss_kinBody (body := body) k H0 hw h.2 fun ds e => by rw [er] at e; cases e; exact r)) fun F σ H ⟨at_, go⟩ => ⟨at_, fun σ' H' at1 => ⟨at1, go⟩⟩
end
/-- what a module says of its classes, for an error of the class D -/
structure KinE (G : Gy) (i : KinI) (Dc : Addr) (fl : Str → Bool) (w : Str) : Prop where
  ex : ExcC G.K Dc
  each : ∀ C ∈ kinClasses i.ks, ∃ (vc : V) (cv : Value), (G.mg C = some cv ∨ (G.mg C = none ∧ bootBuiltins C = some cv ∧ C ≠ "__name__")) ∧ RelV vc cv ∧ (∀ u, RelV vc u → u = cv) ∧ PySem.W.kitOne G.K (.ref Dc) cv = some (fl C)
  told : kinTold i fl = some w
/-- the def, called with the error that is handled -/
theorem kin_runs {G : Gy} {i : KinI} {di : DI} {Dc f : Addr} {fl : Str → Bool} {w : Str} {fd : FuncData} (hb : kinDB i di = true) (F : FunD G.K di.x di.qual di.params di.body di.scope [] [] f fd) (bind : Binds G.K fd di.ps []) (mi : G.mg "isinstance" = none) (mz : G.mg "zip" = none) (k : KinE G i Dc fl w)
    {A : Around} {outer : List Env} {s : Shared} {H : Hp} {Q : VK} {E : XK} {a : Addr} {oe : Obj} {CX : CXT} {n : Nat} (room : L2H.RoomH (n + 1) A) (hot : A.handled = some (.ref a)) (pin : L2H.PinOk outer H s (a, oe)) (e0 : Env0 G.P G.w G.K G.mg G.base A outer s H) (zn : L2N.Zn (.ref Dc) none oe) (dt : ∃ vs, oe.data = .fields vs)
    (go : ∀ H', (∀ b o, H b = some o → H' b = some o) → Q (.str w) H') : codeAny (model G.P G.w) A (.call (.ref f) ⟨[.ref a], []⟩) (CR CX outer G.P G.w H s Q E) s := by
  simp only [kinDB, and_tt, decide_eq_true_eq, List.all_eq_true] at hb
  obtain ⟨⟨⟨⟨⟨⟨⟨⟨⟨⟨⟨⟨hs, hN⟩, hp⟩, he⟩, hm⟩, hl⟩, de⟩, dm⟩, dl⟩, gi⟩, gz⟩, hc⟩, hbody⟩ := hb
  obtain ⟨S, _⟩ := fnSc_of hs
  have len : ([V.ref a] : List V).length = di.ps.length := by rw [hp]; rfl
  refine enter_hot F S bind room hot pin e0 (us := [.ref a]) (vs := [.ref a]) (.cons rfl .nil) len fun cd => ?_
  have kx : KinX (cxOf CX G.P G.w G.K G.mg G.base di.N di.qual di.scope f cd A outer s H E) Dc oe i.n := ⟨hN, S.nd, he, hm, hl, de, dm, dl, gi, mi, gz, mz, k.ex, zn, dt⟩
  have marks : ∀ C ∈ kinClasses i.ks, Mk (cxOf CX G.P G.w G.K G.mg G.base di.N di.qual di.scope f cd A outer s H E) Dc C (fl C) := by
    intro C hC
    obtain ⟨vc, cv, m, r, u, e⟩ := k.each C hC
    exact ⟨vc, cv, ⟨(hc C hC).1, (dunder_eq (hc C hC).2).1, m⟩, r, u, e⟩
  refine ⟨_, pss_kinBody (body := di.body) kx H k.told hbody fun cs e => run_of marks e, ⟨?_, ?_, fun _ _ e => e, .inl rfl⟩, go⟩
  · rw [hN]; rfl
  · rw [hN]; rfl
section
variable {X : Cx} {a : Addr} {oe : Obj} {pn : List (Addr × Obj)}
theorem pe_kin {G : Gy} {i : KinI} {di : DI} {Dc f : Addr} {fl : Str → Bool} {w kn en : Str} {fd : FuncData} {n j : Nat} {p p2 q : Pos} (hX : XOk G X (n + 1)) (hb : kinDB i di = true) (F : FunD G.K di.x di.qual di.params di.body di.scope [] [] f fd) (bind : Binds G.K fd di.ps []) (mi : G.mg "isinstance" = none) (mz : G.mg "zip" = none)
    (k : KinE G i Dc fl w) (zn : L2N.Zn (.ref Dc) none oe) (dt : ∃ vs, oe.data = .fields vs) (hg : Gl X kn) (hd : (kn == ("__debug__" : Str)) = false) (hm : G.mg kn = some (.ref f)) (hk : PySem.W.keepIn G.K (.ref f) = true) (e1 : X.N[j]? = some en) (e2 : X.env.scope.names.lookup en = some .local) (e3 : dunder en = true) :
    PE (zx X a oe pn) (.Call (.Name kn p) [.Name en p2] [] q) (fun σ H Q => σ[j]? = some (some (.ref a)) ∧ ∀ H', (∀ b o, H b = some o → H' b = some o) → Q (.str w) H') := by
  have arg : PA (zx X a oe pn) [.Name en p2] (tCons (tVar j) tNil) := pa_cons (KinX.var e1 e2 e3) pa_nil
  refine ⟨fun pins s σ H Q I ⟨at_, go⟩ => wpAny_Call_Name_kw (ld_glob I hg (by rw [show (zx X a oe pn).mg = G.mg from hX.mg]; exact hm) ?_ hd)⟩
  have hk' : PySem.W.keepIn (zx X a oe pn).K (.ref f) = true := by rw [show (zx X a oe pn).K = G.K from hX.k]; exact hk
  refine PySem.W.callWith_K (h₀ := X.base) I.ok.mod.kin hk' (thn (arg.run q pins s σ H (fun vs H1 => vs = [.ref a] ∧ H1 = H) I ⟨_, at_, rfl, rfl⟩) ?_)
  rintro us s1 ⟨_, _, J, r, rfl, eH⟩
  rw [eH] at J
  cases r with
  | cons r1 rs =>
    cases rs
    cases r1
    refine ⟨J.kIn, ?_⟩
    have pin0 := J.pin (a, oe) (List.mem_append_left _ List.mem_cons_self)
    have noFrame : a ∉ frs (zx X a oe pn).stack := by
      intro m
      rcases List.mem_cons.1 (J.stkSub a m) with z | z
      · exact pin0.2.2.1 z
      · exact pin0.2.2.2.1 z
    have env : Env0 G.P G.w G.K G.mg G.base (zx X a oe pn).A (zx X a oe pn).stack s1 H := by
      have e := J.env0
      rw [show (zx X a oe pn).prog = G.P from hX.p, show (zx X a oe pn).w = G.w from hX.w, show (zx X a oe pn).K = G.K from hX.k, show (zx X a oe pn).mg = G.mg from hX.mg, show (zx X a oe pn).base = G.base from hX.base] at e
      exact e
    have ran := kin_runs (Q := Q) (E := fun _ _ _ => False) (CX := L2N.CX (zx X a oe pn).prog (zx X a oe pn).w) (n := n) hb F bind mi mz k (A := (zx X a oe pn).A) (outer := (zx X a oe pn).stack) (s := s1) (H := H) ⟨hX.room.dp, hX.room.un⟩ rfl ⟨pin0.1, pin0.2.1, noFrame, pin0.2.2.2.2⟩ env zn dt go
    have ran : codeAny (model (zx X a oe pn).prog (zx X a oe pn).w) (zx X a oe pn).A (.call (.ref f) ⟨[.ref a], []⟩) (CR (L2N.CX (zx X a oe pn).prog (zx X a oe pn).w) (zx X a oe pn).stack (zx X a oe pn).prog (zx X a oe pn).w H s1 Q (fun _ _ _ => False)) s1 := by
      rw [show (zx X a oe pn).prog = G.P from hX.p, show (zx X a oe pn).w = G.w from hX.w] at ran ⊢
      exact ran
    exact came passes_no J ran
end
/-! ### try: told or named -/
structure TryI where
  c : Str
  f : Str
  e : Str
  x1 : Str
  x2 : Str
  kn : Str
abbrev Clause := Str × Str × List Stmt
def vTry : Stmt → Option (List Stmt × Clause × Clause)
  | .Try body [.ExceptHandler (some (.Name x1 _)) (some n1) s1 _, .ExceptHandler (some (.Name x2 _)) (some n2) s2 _] [] [] _ => some (body, (x1, n1, s1), (x2, n2, s2))
  | _ => none
theorem vTry_eq {s : Stmt} {b s1 s2 : List Stmt} {x1 n1 x2 n2 : Str} (h : vTry s = some (b, (x1, n1, s1), (x2, n2, s2))) :
    ∃ q1 p1 q2 p2 r, s = .Try b [.ExceptHandler (some (.Name x1 q1)) (some n1) s1 p1, .ExceptHandler (some (.Name x2 q2)) (some n2) s2 p2] [] [] r := by
  unfold vTry at h
  split at h
  · cases h; exact ⟨_, _, _, _, _, rfl⟩
  · cases h
def three {α : Type} : List α → Option (α × α × α)
  | [x, y, z] => some (x, y, z)
  | _ => none
theorem three_eq {α : Type} {l : List α} {x y z : α} (h : three l = some (x, y, z)) : l = [x, y, z] := by
  unfold three at h
  split at h
  · cases h; rfl
  · cases h
def tryEx : Ex := .tup [.con (.str Mini.toldS), .callc 0 []]
def glbB (sc : Scope) (x : Str) : Bool := decide (sc.names.lookup x = some .globalImplicit) && dunder x
def tryDB (K : CK) (t : TryI) (di : DI) : Bool := fnScB di.N di.ps di.scope && decide (di.N = [t.c, t.f, t.e]) && decide (di.ps = [t.c]) && decide (di.scope.names.lookup t.f = some .local) && decide (di.scope.names.lookup t.e = some .local) && dunder t.f && dunder t.e &&
  glbB di.scope t.x1 && glbB di.scope t.x2 && glbB di.scope t.kn && !di.lams && andO (three di.body) fun q =>
    andO (vSet1 q.1) (fun r => decide (r.1 = t.f) && decide (vCon r.2 = some .none)) && andO (vRet q.2.2) (fun o => andO o fun x => decide (vName x = some t.f)) && andO (vTry q.2.1) fun b =>
      andO (one b.1) (fun u => andO (vSet1 u) fun r => decide (r.1 = t.f) && noCompB r.2 && mE K tryEx ⟨di.N, di.scope, true, envQ di.qual di.scope, false⟩ r.2) && decide (b.2.1.1 = t.x1) && decide (b.2.1.2.1 = t.e) && !b.2.1.2.2.isEmpty &&
        decide (b.2.2.1 = t.x2) && decide (b.2.2.2.1 = t.e) && andO (one b.2.2.2.2) fun u => andO (vSet1 u) fun r => decide (r.1 = t.f) && andO (vCall r.2) fun z => decide (z.1 = t.kn) && andO (one z.2) fun y => decide (vName y = some t.e)
/-- what a module says of the errors that may come -/
structure TryE (G : Gy) (i : KinI) (c1 c2 : Value) (tab : List (List Nat)) : Prop where
  each : ∀ x t, tab[x]? = some t → PySem.W.exmOne G.K (.ref (G.ex x)) c1 = some false ∧ PySem.W.exmOne G.K (.ref (G.ex x)) c2 = some true ∧ (∃ fl, KinE G i (G.ex x) fl (sS t)) ∧ (∀ c ∈ t, c < 1114112) ∧ t.length ≤ sizeLine
  one : ∀ x x' t t', tab[x]? = some t → tab[x']? = some t' → G.ex x = G.ex x' → t = t'
section
variable {G : Gy} {C : FCx} {ι : List Addr} {H : Hp} {ρ : Mini.Env} {st : Mini.Store} {σ : L2.St} {Z : Addr → Prop}
/-- what is wanted of errors is no part of the frame -/
theorem Rl.wish {E E' : XK} {cells : List (Str × Addr)} {clo : CloP} {N0 : List Str} {nm : List (Str × NameKind)} {H0 : Hp} {ι0 : List Addr} (R : Rl G.toGx (entry H0 ι0 Z E cells clo N0 nm) ρ st ι σ H) : Rl G.toGx (entry H0 ι0 Z E' cells clo N0 nm) ρ st ι σ H :=
  ⟨⟨R.snc.pre, R.snc.keep, R.snc.new, R.snc.there, R.snc.z, R.snc.tabs⟩, R.len, R.sto, R.slot, R.ownO, R.ownI, R.hidO⟩
theorem told_eq : sS Mini.toldS = ("told" : Str) := by decide +kernel
theorem fn_try {K : CK} {m fx fk : Nat} {t : TryI} {dt dk : DI} {i : KinI} {tab : List (List Nat)} {c1 c2 : Value} {fd fdk : FuncData} (g : Glo G K m) (F : FunD G.K dt.x dt.qual dt.params dt.body dt.scope [] [] (G.fa fx) fd) (hd : G.prog.defs[fx]? = some ⟨1, 3, .tryP tab⟩) (hb : tryDB K t dt = true)
    (Fk : FunD G.K dk.x dk.qual dk.params dk.body dk.scope [] [] (G.fa fk) fdk) (bk : Binds G.K fdk dk.ps []) (hbk : kinDB i dk = true) (mk : G.mg t.kn = some (.ref (G.fa fk))) (mi : G.mg "isinstance" = none) (mz : G.mg "zip" = none) (m1 : G.mg t.x1 = some c1) (m2 : G.mg t.x2 = some c2) (he : TryE G i c1 c2 tab) :
    FnC G.P G.w G.K G.mg G.base (L2N.CX G.P G.w) (m + 1) (G.fa fx) fd dt.ps (SpC G (Mini.callN G.prog G.wf (m + 1) fx) dt.ps.length) := by
  simp only [tryDB, and_tt, decide_eq_true_eq, Bool.not_eq_true'] at hb
  obtain ⟨⟨⟨⟨⟨⟨⟨⟨⟨⟨⟨hs, hN⟩, hp⟩, lf⟩, le⟩, df⟩, de⟩, g1⟩, g2⟩, gk⟩, nl⟩, hbody⟩ := hb
  obtain ⟨S, _⟩ := fnSc_of hs
  simp only [glbB, and_tt, decide_eq_true_eq] at g1 g2 gk
  replace hbody := andO_eq hbody
  obtain ⟨⟨s1, s2, s3⟩, h3, hbody⟩ := hbody
  simp only [and_tt, decide_eq_true_eq] at hbody
  obtain ⟨⟨b1, b3⟩, b2⟩ := hbody
  replace b1 := andO_eq b1
  obtain ⟨⟨n1, v1⟩, w1, b1⟩ := b1
  simp only [and_tt, decide_eq_true_eq] at b1
  obtain ⟨rfl, b1⟩ := b1
  replace b3 := andO_eq b3
  obtain ⟨o3, w3, b3⟩ := b3
  replace b3 := andO_eq b3
  obtain ⟨v3, rfl, b3⟩ := b3
  simp only [decide_eq_true_eq] at b3
  replace b2 := andO_eq b2
  obtain ⟨⟨tb, ⟨y1, z1, u1⟩, ⟨y2, z2, u2⟩⟩, w2, b2⟩ := b2
  simp only [and_tt, decide_eq_true_eq, Bool.not_eq_true'] at b2
  obtain ⟨⟨⟨⟨⟨⟨b4, rfl⟩, rfl⟩, ne1⟩, rfl⟩, hz2⟩, b5⟩ := b2
  replace b4 := andO_eq b4
  obtain ⟨t1, o1, b4⟩ := b4
  replace b4 := andO_eq b4
  obtain ⟨⟨n4, v4⟩, w4, b4⟩ := b4
  simp only [and_tt, decide_eq_true_eq] at b4
  obtain ⟨⟨hn4, nc4⟩, m4⟩ := b4
  replace b5 := andO_eq b5
  obtain ⟨t2, o2, b5⟩ := b5
  replace b5 := andO_eq b5
  obtain ⟨⟨n5, v5⟩, w5, b5⟩ := b5
  simp only [and_tt, decide_eq_true_eq] at b5
  obtain ⟨hn5, b5⟩ := b5
  replace b5 := andO_eq b5
  obtain ⟨⟨kn5, as5⟩, c5, b5⟩ := b5
  simp only [and_tt, decide_eq_true_eq] at b5
  obtain ⟨hkn, b5⟩ := b5
  replace b5 := andO_eq b5
  obtain ⟨a5, o5, b5⟩ := b5
  simp only [decide_eq_true_eq] at b5
  have body := three_eq h3
  obtain ⟨p1, q1, rfl⟩ := vSet1_eq w1
  obtain ⟨j1, q2, rfl⟩ := vCon_eq b1
  obtain ⟨q3, rfl⟩ := vRet_eq w3
  obtain ⟨q4, rfl⟩ := vName_eq b3
  obtain ⟨q5, q6, q7, q8, q9, rfl⟩ := vTry_eq w2
  obtain rfl := one_eq o1
  obtain ⟨q10, q11, rfl⟩ := vSet1_eq w4
  obtain rfl := one_eq o2
  obtain ⟨q12, q13, rfl⟩ := vSet1_eq w5
  obtain ⟨q14, q15, rfl⟩ := vCall_eq c5
  obtain rfl := one_eq o5
  obtain ⟨q16, rfl⟩ := vName_eq b5
  subst hn4 hn5 hkn hz2
  cases u1 with
  | nil => cases ne1
  | cons u0 ur =>
  refine ⟨fun o s vs H Q E h => h.1, fun A outer s H args us vs Q E hr e0 bnd rv hsp => ?_⟩
  obtain ⟨_, _, _, _, _, _, _, cdv, _, _, rfl, lk, hcd, _⟩ := F.ex
  refine LamX.run_ofS lk hcd S hr e0 bnd rv hsp.1 fun hr' => ?_
  obtain ⟨hl, ss, st, ι, Z, ar, sto, hz, tbs, q⟩ := hsp
  have hlen := ar.length
  rw [hp] at hl
  obtain ⟨s0, rfl⟩ : ∃ s0, ss = [s0] := List.length_eq_one_iff.mp (by rw [hlen, hl]; rfl)
  have q : PostC G ι Z H (Mini.callN G.prog G.wf (m + 1) fx [s0] st) Q E := q
  unfold Mini.callN at q
  rw [hd] at q
  dsimp only at q
  rw [if_pos (show [s0].length = 1 from rfl)] at q
  cases s0 with
  | clo k cap =>
    dsimp only at q
    have q : PostC G ι Z H (match cfN G m k (cap.map Sl.val) st with
      | .ok d st1 => .ok (.tup [.str Mini.toldS, d]) st1
      | .raise x st1 => (match x.pay, tab[x.cls]? with
        | none, some t => .ok (.str t) st1
        | _, _ => .stuck)
      | .stuck => .stuck) Q E := q
    -- the frame
    let X : Cx := cxOf (L2N.CX G.P G.w) G.P G.w G.K G.mg G.base dt.N dt.qual dt.scope (G.fa fx) cdv A outer s H E
    have hX : XOk G X m := ⟨rfl, rfl, rfl, rfl, rfl, rfl, hr'⟩
    have lN : dt.N.length = 3 := by rw [hN]; rfl
    have i1 : X.N[1]? = some t.f := by show dt.N[1]? = _; rw [hN]; rfl
    have i2 : X.N[2]? = some t.e := by show dt.N[2]? = _; rw [hN]; rfl
    obtain ⟨d1, d2, _⟩ := dunder_eq df
    let Ce : XK → FCx := fun EE => entry H ι Z EE (envOfC dt.qual dt.scope s.heap.objs.size (G.fa fx) cdv).cells (cloAt outer s H) dt.N dt.scope.names
    have R0 : ∀ EE, Rl G.toGx (Ce EE) [.clo k cap, .non, .non] st ι (L2.start dt.N vs) H := fun EE => entry_rl (k := 2) (by rw [hl, lN]; rfl) ar sto hz tbs
    have R1 : ∀ EE, Rl G.toGx (Ce EE) [.clo k cap, .val .non, .non] st ι ((L2.start dt.N vs).set 1 (some .non)) H := fun EE => (R0 EE).setVal (i := 1) (by simp) .non
    have len1 : ((L2.start dt.N vs).set 1 (some V.non)).length = 3 := (R1 E).len
    -- the end: what is found is told
    have fin : ∀ (σ' : L2.St) (H' : Hp) (v : V), σ'[1]? = some (some v) → Q v H' → tRet (tVar 1) { nx := fun _ H' => Q .non H', rt := Q } σ' H' := fun σ' H' v e hq => ⟨v, e, hq⟩
    have ends : ∀ {EE : XK} {ρ' : Mini.Env} {st' : Mini.Store} {ι' : List Addr} {σ' : L2.St} {H' : Hp}, Rl G.toGx (Ce EE) ρ' st' ι' σ' H' → StpE ι H ι' H' ∧ StoR G.toGx ι' (Wz ι' Z) H' st' ∧ LamX.Tabs G.T H' := fun R => ⟨entry_stp R, R.sto.monoW (Snd.anti entry_anti), R.snc.tabs⟩
    -- the suite
    have suite : ∀ a oe cls d pn, L2N.Zn cls d oe → (∃ vs, oe.data = .fields vs) → PSs (zx X a oe pn) [.Assign [.Name t.f q12] (.Call (.Name t.kn q14) [.Name t.e q16] [] q15) q13]
        (fun F σ' H' => σ'[2]? = some (some (.ref a)) ∧ ∃ x w, cls = .ref (G.ex x) ∧ d = none ∧ tab[x]? = some w ∧ m ≠ 0 ∧ ∀ H2, (∀ b o, H' b = some o → H2 b = some o) → F.nx (σ'.set 1 (some (.str (sS w)))) H2) := by
      intro a oe cls d pn zn hdt
      by_cases some_ : ∃ x w, cls = .ref (G.ex x) ∧ d = none ∧ tab[x]? = some w ∧ m ≠ 0
      · obtain ⟨x, w, rfl, rfl, hw, m0⟩ := some_
        obtain ⟨_, _, ⟨fl, ke⟩, _⟩ := he.each x w hw
        obtain ⟨m', rfl⟩ := Nat.exists_eq_succ_of_ne_zero m0
        have asked := pe_kin (X := X) (a := a) (oe := oe) (pn := pn) (kn := t.kn) (en := t.e) (j := 2) (p := q14) (p2 := q16) (q := q15) (n := m') hX hbk Fk bk mi mz ke zn hdt gk.1 (dunder_eq gk.2).1 mk Fk.kp i2 le de
        refine pss_one (psMono (ps_set (X := zx X a oe pn) S.nd i1 (.inl lf) asked (noComp_sw rfl _ _ _) (.inr lf)) ?_)
        rintro F σ' H' ⟨at_, x', w', e1, _, hw', _, go⟩
        obtain rfl : w = w' := he.one x x' w w' hw hw' (by simpa using e1)
        exact ⟨at_, fun H2 ext => go H2 ext⟩
      · exact ⟨fun pins s σ H D I ⟨_, x, w, e1, e2, e3, e4, _⟩ => absurd ⟨x, w, e1, e2, e3, e4⟩ some_⟩
    -- the body of the try
    have tried : ∀ (W : WX) (pn : List (Addr × Obj)) (xe : Value → Shared → Prop), L2N.Takes (X.tr pn xe) W → PSs (X.tr pn xe) [.Assign [.Name t.f q10] v4 q11]
        (fun F σ' H' => σ' = (L2.start dt.N vs).set 1 (some .non) ∧ H' = H ∧ PostE G (Ce fun cls d H2 => ∀ σ2 : L2.St, σ2.length = 3 → W cls d σ2 H2) .strong [.clo k cap, .val .non, .non] ι σ' H' (Mini.evE G.prog.globs (cfN G m) tryEx [.clo k cap, .val .non, .non] st) (fun v H2 => F.nx (σ'.set 1 (some v)) H2)) := by
      intro W pn xe tk
      have hX' : XOk G (X.tr pn xe) m := ⟨rfl, rfl, rfl, rfl, rfl, rfl, hr'⟩
      have amb : AmbE G ⟨dt.N, dt.scope, true, envQ dt.qual dt.scope, false⟩ (X.tr pn xe) (Ce fun cls d H2 => ∀ σ2 : L2.St, σ2.length = 3 → W cls d σ2 H2) m := by
        refine ⟨hX', rfl, S.nd, rfl, fun _ _ => rfl, ?_, fun _ => ⟨rfl, rfl, rfl, fun pins σ H' s' cells fr ws I h => cloAt.later rfl rfl rfl I h⟩, fun z => by cases z⟩
        intro pins σ2 H2 s2 e s3 I2 cx
        have len2 : σ2.length = 3 := I2.len.trans lN
        exact tk e s3 (L2N.XE.of_call I2 (fun cls d H3 q => q σ2 len2) cx)
      have told := (soE g tryEx _ v4 m4 _ _ amb).1
      refine pss_one (psMono (ps_set (X := X.tr pn xe) S.nd i1 (.inl lf) told (noComp_sw nc4 _ _ _) (.inr lf)) ?_)
      rintro F σ' H' ⟨rfl, rfl, q⟩
      exact ⟨_, st, ι, R1 _, q⟩
    have nope : ∀ a oe cls d pn, L2N.Zn cls d oe → (∃ vs, oe.data = .fields vs) → PSs (zx X a oe pn) (u0 :: ur) (fun _ _ _ => False) := fun _ _ _ _ _ _ _ => ⟨fun _ _ _ _ _ _ no => no.elim⟩
    have names1 : Names X t.x1 c1 := ⟨g1.1, (dunder_eq g1.2).1, .inl m1⟩
    have names2 : Names X t.x2 c2 := ⟨g2.1, (dunder_eq g2.2).1, .inl m2⟩
    have whole := ps_try2 (X := X) (np1 := q5) (np2 := q7) (p1 := q6) (p2 := q8) (pos := q9) rfl rfl S.nd i2 le names1 names2 tried nope suite
    rw [body]
    refine ⟨_, pss_cons (ps_set (X := X) S.nd i1 (.inl lf) pe_non (noComp_sw rfl _ _ _) (.inr lf)) (pss_cons whole (pss_one (ps_ret (pe_var i1 (.inl lf) d1 d2)))), ?_⟩
    refine ⟨rfl, rfl, ?_⟩
    cases e : cfN G m k (cap.map Sl.val) st with
    | stuck => rw [e] at q; exact q.elim
    | ok d st1 =>
      rw [e] at q
      have ev : Mini.evE G.prog.globs (cfN G m) tryEx [.clo k cap, .val .non, .non] st = .ok (.tup [.str Mini.toldS, d]) st1 := by
        simp [tryEx, Mini.evE, Mini.evEs, Mini.Res.bind, e, Mini.lift, Mini.mkTup, Mini.fits, Mini.line]
      rw [ev]
      intro v ι' H' R' S' w'
      obtain ⟨e1, e2, e3⟩ := ends R'
      have l0 : (L2.start dt.N vs).length = 3 := (R0 E).len
      refine fin _ _ v (by simp [l0]) (q v ι' H' e1 e2 e3 (Rp.mono (Snd.anti entry_anti) _ _ w'))
    | raise x st1 =>
      rw [e] at q
      have ev : Mini.evE G.prog.globs (cfN G m) tryEx [.clo k cap, .val .non, .non] st = .raise x st1 := by
        simp [tryEx, Mini.evE, Mini.evEs, Mini.Res.bind, e]
      rw [ev]
      intro cls dx ι' H' R' er σ2 len2
      have m0 : m ≠ 0 := by
        intro z
        subst z
        cases e
      obtain ⟨ecls, ep⟩ := er
      have q : PostC G ι Z H (match x.pay, tab[x.cls]? with
        | none, some t => Res.ok (.str t) st1
        | _, _ => .stuck) Q E := q
      cases hp2 : x.pay with
      | some pd => rw [hp2] at q; exact q.elim
      | none =>
        rw [hp2] at q ep
        cases ht : tab[x.cls]? with
        | none => rw [ht] at q; exact q.elim
        | some w =>
          rw [ht] at q
          obtain ⟨no1, yes2, _, w1, w2⟩ := he.each x.cls w ht
          subst ecls
          refine .inr ⟨no1, yes2, fun a na => ⟨by simp [len2], x.cls, w, rfl, ep, ht, m0, fun H2 ext => ?_⟩⟩
          obtain ⟨R2, _⟩ := R'.grow (fun b o e _ => ext b o e) (R'.snc.tabs.ext ext) (fun b nb => by
            obtain ⟨o, eo⟩ := Option.ne_none_iff_exists'.mp nb
            rw [ext b o eo]
            exact Option.some_ne_none _)
          obtain ⟨e1, e2, e3⟩ := ends R2
          exact fin _ _ (.str (sS w)) (by simp [len2]) (q _ ι' H2 e1 e2 e3 (.str w w1 w2))
  | _ => exact q.elim
end
end Snd
end
section
set_option maxRecDepth 100000
set_option maxHeartbeats 4000000
/-! SndZ: a module's facts, checked. -/
namespace Snd
open PySem PySem.Spec PyProof.Rows L2
open Mini (D Sl Xc Res SRes Ex Ar Itr Stm Tgt Prim)
theorem look_zip : ∀ {ps : List Str} {us : List Value} (n : Str), ps.length = us.length → n ∈ ps → ((ps.zip us).lookup n).isSome = true
  | p :: ps, u :: us, n, hl, hm => by
    rw [List.zip_cons_cons, List.lookup_cons]
    by_cases e : n = p
    · subst e; simp
    · have : (n == p) = false := beq_eq_false_iff_ne.mpr e
      rw [this]
      exact look_zip n (by simpa using hl) ((List.mem_cons.1 hm).resolve_left e)
theorem fm_congr {α β : Type} {f g : α → Option β} : ∀ {l : List α}, (∀ a ∈ l, f a = g a) → l.filterMap f = l.filterMap g
  | [], _ => rfl
  | a :: l, h => by rw [List.filterMap_cons, List.filterMap_cons, h a List.mem_cons_self, fm_congr fun b hb => h b (List.mem_cons_of_mem _ hb)]
theorem zip_self : ∀ {ps : List Str} {us : List Value}, ps.Nodup → ps.length = us.length → ps.filterMap (fun n => ((ps.zip us).lookup n).map fun v => (n, v)) = ps.zip us
  | [], us, _, _ => by simp
  | p :: ps, [], _, hl => by cases hl
  | p :: ps, u :: us, nd, hl => by
    obtain ⟨h1, h2⟩ := List.nodup_cons.1 nd
    have rest : ps.filterMap (fun n => (((p :: ps).zip (u :: us)).lookup n).map fun v => (n, v)) = ps.filterMap (fun n => ((ps.zip us).lookup n).map fun v => (n, v)) := by
      refine fm_congr fun n hn => ?_
      have ne : (n == p) = false := beq_eq_false_iff_ne.mpr fun e => h1 (e ▸ hn)
      rw [List.zip_cons_cons, List.lookup_cons, ne]
    rw [List.filterMap_cons]
    have here : ((p :: ps).zip (u :: us)).lookup p = some u := by rw [List.zip_cons_cons, List.lookup_cons]; simp
    rw [here, rest, zip_self h2 (by simpa using hl)]
    rfl
/-- a def's parameters: names alone -/
def parB (p : Arguments) (ps : List Str) : Bool := p.posonlyargs.isEmpty && p.kwonlyargs.isEmpty && p.vararg.isNone && p.kwarg.isNone && decide (p.args.map (·.arg) = ps) && decide ps.Nodup
theorem bind_plain {fd : FuncData} {ps : List Str} {us : List Value} (h : parB fd.params ps = true) (hd : fd.defaults = .none) (hl : us.length = ps.length) : bindArgs fd ⟨us, []⟩ = pure (ps.zip us) := by
  simp only [parB, and_tt, decide_eq_true_eq, List.isEmpty_iff, Option.isNone_iff_eq_none] at h
  obtain ⟨⟨⟨⟨⟨h1, h2⟩, h3⟩, h4⟩, h5⟩, nd⟩ := h
  have miss : ps.filter (fun n => ((ps.zip us).lookup n).isNone) = [] := List.filter_eq_nil_iff.mpr fun n hn => by
    have := look_zip (us := us) n hl.symm hn
    simpa [Option.isSome_iff_ne_none, Option.isNone_iff_eq_none] using this
  have z := zip_self nd hl.symm
  unfold bindArgs
  simp only [h1, h2, h3, h4, h5, hd, List.map_nil, List.nil_append, List.append_nil]
  have s0 : seqItems? Value.none = pure none := by rfl
  rw [s0]
  simp [hl, miss, z]
/-! ### a module as data -/
/-- its defs (their places in the text of Mini the same), constants, error classes, built-in names; the two defs that name errors -/
structure MI where
  pdefs : List Mini.Dfn
  defs : List DI
  cons : List (Str × D)
  excs : List Str
  blt : List Str
  tryI : TryI
  kinI : KinI
  tryX : Nat
  kinX : Nat
  tab : List (List Nat)
  lamN : List Nat
def MI.prog (M : MI) : Mini.Prg := ⟨M.cons.map (·.2), M.pdefs⟩
section
variable (M : MI)
def MI.fns : List (Str × GI) := (List.range M.defs.length).filterMap fun i => if i = M.kinX then none else (M.defs[i]?).map fun d => (d.x, GI.fn i d.ps.length)
def MI.cs : List (Str × GI) := M.cons.mapIdx fun i c => (c.1, GI.con i)
def MI.xs : List (Str × GI) := (M.excs.take M.tab.length).mapIdx fun i x => (x, GI.exc i)
/-- the module's names, no function within a function -/
def MI.flat : CK := ⟨M.fns ++ M.cs ++ M.xs, M.blt, (fun _ _ => false), fun k => decide (k ≠ M.tryX)⟩
def MI.lamC (k : Nat) (L : LamI) : Bool := NdefX.nscB (L.ps ++ L.cap) L.ps L.cap L.scope && parB L.params L.ps && match M.prog.defs[k]? with
  | some ⟨np, ns, .expr e⟩ => decide (np = L.ps.length + L.cap.length) && decide (ns = L.ps.length + L.cap.length) && mE M.flat e ⟨L.ps ++ L.cap, L.scope, false, L.qual, false⟩ L.body && firm e
  | _ => false
def MI.ck : CK := { M.flat with lam := M.lamC }
/-- def by def -/
def MI.defB (i : Nat) : Bool := match M.defs[i]?, M.prog.defs[i]? with
  | some d, some f => parB d.params d.ps && (if i = M.kinX then kinDB M.kinI d else if i = M.tryX then tryDB M.ck M.tryI d && decide (f.np = 1) && decide (f.ns = 3) && (match f.body with | .tryP t => decide (t = M.tab) | _ => false) else dB M.ck d f) &&
      (!d.lams || decide (i ∈ M.lamN))
  | _, _ => false
def MI.okB : Bool := (List.range M.defs.length).all M.defB
/-- which marks an error of the class D has -/
def flD (D C : Str) : Bool := decide (C = D) || decide (C = "ValueError")
/-- .. told -/
def MI.kinB (x : Nat) : Bool := match M.excs[x]?, M.tab[x]? with
  | some D, some t => decide (kinTold M.kinI (flD D) = some (sS t)) && t.all (fun c => decide (c < 1114112)) && decide (t.length ≤ sizeLine)
  | _, _ => false
def MI.kinsB : Bool := (List.range M.tab.length).all M.kinB
end
/-! ### what the heap must tell -/
mutual
/-- the value u tells d -/
def repB (K : Frag) : D → Value → Bool
  | .int m, .int j _ => decide (m = j)
  | .str s, .str z _ => decide (z = sS s) && s.all (fun c => decide (c < 1114112)) && decide (s.length ≤ sizeLine)
  | .tup ds, .ref a => (match K.lookup a with
    | some o => decide (o.cls = .type "tuple") && (match o.data with
      | .seq its _ => decide (its.size ≤ sizeLine) && repsB K ds its.toList
      | _ => false)
    | none => false)
  | _, _ => false
def repsB (K : Frag) : List D → List Value → Bool
  | [], [] => true
  | d :: ds, u :: us => repB K d u && repsB K ds us
  | _, _ => false
end
mutual
theorem repB_ok {G : Gx} : ∀ {d : D} {u : Value}, repB G.K d u = true → ∃ v, RelV v u ∧ ∀ ι W H, Rp G ι W H d v
  | .int i, u, h => by
    cases u <;> first | (cases h; done) | skip
    rename_i j t
    obtain rfl : i = j := of_decide_eq_true h
    exact ⟨.int i, ⟨t, rfl⟩, fun _ _ _ => .int i⟩
  | .str s, u, h => by
    cases u <;> first | (cases h; done) | skip
    rename_i z t
    unfold repB at h
    simp only [and_tt, decide_eq_true_eq, List.all_eq_true] at h
    obtain ⟨⟨rfl, h1⟩, h2⟩ := h
    exact ⟨.str (sS s), ⟨t, rfl⟩, fun _ _ _ => .str s h1 h2⟩
  | .tup ds, u, h => by
    cases u <;> first | (cases h; done) | skip
    rename_i a
    unfold repB at h
    split at h
    · rename_i o ho
      rw [and_tt] at h
      obtain ⟨h1, h⟩ := h
      split at h
      · rename_i its n hd
        rw [and_tt] at h
        obtain ⟨vs, r, q⟩ := repsB_ok h.2
        exact ⟨.ref a, rfl, fun ι W H => .tup (.inr ⟨o, its, n, ho, of_decide_eq_true h1, hd, of_decide_eq_true h.1, r⟩) (q ι W H)⟩
      · cases h
    · cases h
  | .non, u, h => by unfold repB at h; cases u <;> cases h
  | .bl _, u, h => by unfold repB at h; cases u <;> cases h
  | .lst _, u, h => by unfold repB at h; cases u <;> cases h
  | .dic _ _, u, h => by unfold repB at h; cases u <;> cases h
  | .cell _, u, h => by unfold repB at h; cases u <;> cases h
  | .fn _, u, h => by unfold repB at h; cases u <;> cases h
theorem repsB_ok {G : Gx} : ∀ {ds : List D} {us : List Value}, repsB G.K ds us = true → ∃ vs, Vals vs us ∧ ∀ ι W H, Rps G ι W H ds vs
  | [], [], _ => ⟨[], .nil, fun _ _ _ => .nil⟩
  | [], u :: us, h => by unfold repsB at h; cases h
  | d :: ds, [], h => by unfold repsB at h; cases h
  | d :: ds, u :: us, h => by
    unfold repsB at h
    rw [and_tt] at h
    obtain ⟨v, r, q⟩ := repB_ok h.1
    obtain ⟨vs, rs, qs⟩ := repsB_ok h.2
    exact ⟨v :: vs, .cons r rs, fun ι W H => .cons (q ι W H) (qs ι W H)⟩
end
section
variable (M : MI) (K : Frag)
def conHB (c : Str × D) : Bool := match PySem.W.nsIn K mainGlobals c.1 with
  | some (some u) => repB K c.2 u
  | _ => false
def excCB (Dc : Addr) : Bool := decide (PySem.W.findIn K (.ref Dc) "__getattribute__" = some (some (.builtin "BaseException.__getattribute__"))) && decide (PySem.W.findIn K (.ref Dc) "__getattr__" = some none) && decide (PySem.W.subIn K (.ref Dc) (.type "BaseException") = some true) && PySem.W.hasDictIn K Dc &&
  decide (PySem.W.findIn K (.ref Dc) "__class__" = some (some (.builtin "object.__class__"))) && decide (PySem.W.specialIn K (.builtin "object.__class__") "__get__" = some (some (.builtin "getset_descriptor.__get__"))) && decide (PySem.W.takesIn K (.builtin "object.__class__") = some true) && decide (PySem.W.mroIn K Dc (.type "object") = some true)
/-- the class of a name among the marks -/
def clsV (C : Str) : Value := if C = "ValueError" then .type "ValueError" else .ref (He.ga K C)
def markHB (D C : Str) : Bool := decide (PySem.W.kitOne K (.ref (He.ga K D)) (clsV K C) = some (flD D C))
def excHB (x : Nat) : Bool := match M.excs[x]? with
  | some D => excCB K (He.ga K D) && (kinClasses M.kinI.ks).all (markHB K D) && decide (PySem.W.exmOne K (.ref (He.ga K D)) (.ref (He.ga K M.tryI.x1)) = some false) && decide (PySem.W.exmOne K (.ref (He.ga K D)) (.ref (He.ga K M.tryI.x2)) = some true) &&
      (List.range M.tab.length).all fun y => decide (y = x) || (match M.excs[y]? with | some D' => !decide (He.ga K D = He.ga K D') | none => true)
  | none => false
def tabHB : Bool := M.lamN.all fun i => M.lamN.all fun j => decide (i = j) || (match M.defs[i]?, M.defs[j]? with
  | some d, some e => !decide ((He.cT K (d.x, none)).2 = (He.cT K (e.x, none)).2)
  | _, _ => false)
def MI.more : Bool := M.cons.all (conHB K) && (List.range M.tab.length).all (excHB M K) && tabHB M K
def MI.fa : List He.Fa := M.defs.map (fun d => .glo d.x) ++ M.blt.map .free ++ M.excs.map .glo ++ (M.excs.take M.tab.length).map .exc
def MI.fn : List He.DefD := M.defs.map fun d => ⟨(d.x, none), d.x, d.qual, d.params, d.body, d.scope, [], []⟩
def MI.tf : List He.Defn := M.lamN.filterMap fun i => (M.defs[i]?).map fun d => (d.x, none)
end
/-- the rest that stands fast -/
def MI.okB2 (M : MI) : Bool := decide ((M.defs[M.kinX]?).map (·.x) = some M.tryI.kn) && M.blt.contains "isinstance" && M.blt.contains "zip" && M.blt.contains "ValueError" && M.excs.contains M.tryI.x1 && M.excs.contains M.tryI.x2 &&
  (kinClasses M.kinI.ks).all (fun C => decide (C = "ValueError") || M.excs.contains C) && decide (M.tab.length ≤ M.excs.length)
def MI.nm (M : MI) (i : Nat) : Str := match M.defs[i]? with
  | some d => d.x
  | none => ""
def MI.gy (M : MI) (P : Program) (w : World) (K : Frag) (mg : Str → Option Value) (base : Heap) (wf : Nat) : Gy where
  P := P
  w := w
  K := K
  mg := mg
  base := base
  fa := fun i => He.ga K (M.nm i)
  lamOk := fun k L => M.lamC k L = true
  T := M.lamN.filterMap fun i => (M.defs[i]?).map fun d => ((He.cT K (d.x, none)).2, envQ d.qual d.scope ++ "<lambda>")
  fnp := fun s k np => M.flat.gi.lookup s = some (.fn k np) ∧ k ≠ M.tryX
  prog := M.prog
  wf := wf
  ex := fun x => He.ga K (M.excs.getD x "")
theorem mem_look {α : Type} : ∀ {l : List (Str × α)} {s : Str} {v : α}, l.lookup s = some v → (s, v) ∈ l
  | [], _, _, h => by cases h
  | (k, u) :: l, s, v, h => by
    rw [List.lookup_cons] at h
    split at h
    · rename_i e
      cases h
      rw [eq_of_beq e]
      exact List.mem_cons_self
    · exact List.mem_cons_of_mem _ (mem_look h)
section
variable {M : MI} {P : Program} {w : World} {K : Frag} {mg : Str → Option Value} {base h : Heap} {wf : Nat}
/-- the module, as a run of its top left it -/
structure MHas (M : MI) (K : Frag) (mg : Str → Option Value) (base : Heap) : Prop where
  s1 : M.okB = true
  s2 : M.okB2 = true
  s3 : M.kinsB = true
  inK : K.In base
  ns : base.Ns mainGlobals mg
  facts : He.SaysD M.fa M.fn K
  more : M.more K = true
  tabs : ∀ p ∈ M.tf, LamX.TabB base mg (He.cT K p).1 (He.cT K p).2
theorem MHas.def_ (H : MHas M K mg base) {i : Nat} {d : DI} (e : M.defs[i]? = some d) : ∃ fd, FunD K d.x d.qual d.params d.body d.scope [] [] (He.ga K d.x) fd ∧ Binds K fd d.ps [] ∧ mg d.x = some (.ref (He.ga K d.x)) ∧ (∀ (s : Shared) (us : List Value), us.length = d.ps.length → BindsTo s fd ⟨us, []⟩ (d.ps.zip us)) := by
  have mem := List.mem_of_getElem? e
  obtain ⟨fd, F⟩ := H.facts.defs (d := ⟨(d.x, none), d.x, d.qual, d.params, d.body, d.scope, [], []⟩) (List.mem_map.2 ⟨d, mem, rfl⟩)
  have F : FunD K d.x d.qual d.params d.body d.scope [] [] (He.ga K d.x) fd := F
  have lt : i < M.defs.length := (List.getElem?_eq_some_iff.mp e).1
  have ok := H.s1
  simp only [MI.okB, and_tt, List.all_eq_true] at ok
  have okd := ok i (List.mem_range.2 lt)
  unfold MI.defB at okd
  rw [e] at okd
  have par : parB d.params d.ps = true := by
    split at okd
    · rename_i d' f e1 e2
      cases e1
      simp only [and_tt] at okd
      exact okd.1.1
    · cases okd
  have bp : ∀ (kV doc pm : Value) (an : Option Addr) (cdv ct : Value) (us : List Value), us.length = d.ps.length → bindArgs (PySem.W.fnOf d.x d.qual d.params d.body d.scope .none kV doc pm an cdv ct) ⟨us, []⟩ = pure (d.ps.zip us) := fun _ _ _ _ _ _ us hl => bind_plain par rfl hl
  refine ⟨fd, F, F.bindsN bp, He.glo_ok H.inK H.ns (H.facts.facts (f := .glo d.x) ?_), fun s us hl => F.bindsA bp s us hl⟩
  exact List.mem_append_left _ (List.mem_append_left _ (List.mem_append_left _ (List.mem_map.2 ⟨d, mem, rfl⟩)))
theorem MHas.glo (H : MHas M K mg base) {x : Str} (e : x ∈ M.excs) : mg x = some (.ref (He.ga K x)) :=
  He.glo_ok H.inK H.ns (H.facts.facts (f := .glo x) (List.mem_append_left _ (List.mem_append_right _ (List.mem_map.2 ⟨x, e, rfl⟩))))
theorem MHas.free (H : MHas M K mg base) {x : Str} (e : x ∈ M.blt) : mg x = none :=
  He.free_ok H.inK H.ns (H.facts.facts (f := .free x) (List.mem_append_left _ (List.mem_append_left _ (List.mem_append_right _ (List.mem_map.2 ⟨x, e, rfl⟩)))))
theorem MHas.exc (H : MHas M K mg base) {x : Nat} (lt : x < M.tab.length) : ∃ Dn, M.excs[x]? = some Dn ∧ excHB M K x = true ∧ (He.Fa.exc Dn).ok K = true := by
  have m := H.more
  simp only [MI.more, and_tt, List.all_eq_true] at m
  have e := m.1.2 x (List.mem_range.2 lt)
  cases q : M.excs[x]? with
  | none => unfold excHB at e; rw [q] at e; cases e
  | some Dn =>
    refine ⟨Dn, rfl, e, H.facts.facts (f := .exc Dn) (List.mem_append_right _ (List.mem_map.2 ⟨Dn, ?_, rfl⟩))⟩
    exact List.mem_of_getElem? (i := x) (by rw [List.getElem?_take_of_lt lt]; exact q)
theorem MHas.tryE (H : MHas M K mg base) : TryE (M.gy P w K mg base wf) M.kinI (.ref (He.ga K M.tryI.x1)) (.ref (He.ga K M.tryI.x2)) M.tab := by
  have key : ∀ {x : Nat} {t : List Nat}, M.tab[x]? = some t → ∃ Dn, M.excs[x]? = some Dn ∧ (M.gy P w K mg base wf).ex x = He.ga K Dn ∧ excHB M K x = true ∧ M.kinB x = true := by
    intro x t e
    have lt := (List.getElem?_eq_some_iff.mp e).1
    obtain ⟨Dn, q, hx, _⟩ := H.exc lt
    have k := H.s3
    simp only [MI.kinsB, List.all_eq_true] at k
    refine ⟨Dn, q, ?_, hx, k x (List.mem_range.2 lt)⟩
    show He.ga K (M.excs.getD x "") = _
    rw [List.getD_eq_getElem?_getD, q]; rfl
  have s2 := H.s2
  simp only [MI.okB2, and_tt, List.all_eq_true, decide_eq_true_eq, Bool.or_eq_true] at s2
  obtain ⟨⟨⟨⟨⟨⟨⟨_, _⟩, _⟩, fv⟩, _⟩, _⟩, kc⟩, _⟩ := s2
  constructor
  · intro x t e
    obtain ⟨Dn, q, ga, hx, hk⟩ := key e
    unfold excHB at hx
    unfold MI.kinB at hk
    rw [q] at hx
    rw [q, e] at hk
    simp only [and_tt, decide_eq_true_eq, List.all_eq_true] at hx hk
    obtain ⟨⟨⟨⟨hc, hm⟩, no1⟩, yes2⟩, _⟩ := hx
    obtain ⟨⟨told, pts⟩, small⟩ := hk
    rw [ga]
    simp only [excCB, and_tt, decide_eq_true_eq] at hc
    obtain ⟨⟨⟨⟨⟨⟨⟨h1, h2⟩, h3⟩, h4⟩, h5⟩, h6⟩, h7⟩, h8⟩ := hc
    refine ⟨no1, yes2, ⟨flD Dn, ⟨h1, h2, h3, h4, h5, h6, h7, h8⟩, fun C hC => ?_, told⟩, pts, small⟩
    have m := of_decide_eq_true (hm C hC)
    unfold clsV at m
    rcases kc C hC with hv | he
    · rw [if_pos hv] at m
      subst hv
      exact ⟨.ty "ValueError", .type "ValueError", .inr ⟨H.free (List.contains_iff_mem.mp fv), (by decide +kernel), by decide⟩, rfl, fun _ z => z, m⟩
    · by_cases hv : C = "ValueError"
      · rw [if_pos hv] at m
        subst hv
        exact ⟨.ty "ValueError", .type "ValueError", .inr ⟨H.free (List.contains_iff_mem.mp fv), (by decide +kernel), by decide⟩, rfl, fun _ z => z, m⟩
      · rw [if_neg hv] at m
        exact ⟨.ref (He.ga K C), .ref (He.ga K C), .inl (H.glo (List.contains_iff_mem.mp he)), rfl, fun _ z => z, m⟩
  · intro x x' t t' e e' same
    obtain ⟨Dn, q, ga, hx, _⟩ := key e
    obtain ⟨Dn', q', ga', _, _⟩ := key e'
    unfold excHB at hx
    rw [q] at hx
    simp only [and_tt, List.all_eq_true] at hx
    have y := hx.2 x' (List.mem_range.2 (List.getElem?_eq_some_iff.mp e').1)
    rw [q'] at y
    simp only [Bool.or_eq_true, decide_eq_true_eq, Bool.not_eq_true', decide_eq_false_iff_not] at y
    rcases y with y | y
    · subst y
      rw [e] at e'
      exact Option.some.inj e'
    · exact absurd (by rw [← ga, ← ga', same]) y
theorem MHas.tab (H : MHas M K mg base) {i : Nat} {d : DI} {fd : FuncData} (e : M.defs[i]? = some d) (m : i ∈ M.lamN) (F : FunD K d.x d.qual d.params d.body d.scope [] [] (He.ga K d.x) fd) :
    ∃ cc tp, LamX.TabB base mg cc tp ∧ fd.code = .ref cc ∧ (tp, envQ d.qual d.scope ++ "<lambda>") ∈ (M.gy P w K mg base wf).T ∧ ∀ p ∈ (M.gy P w K mg base wf).T, p.1 = tp → p.2 = envQ d.qual d.scope ++ "<lambda>" := by
  obtain ⟨oc, od, dV, kV, doc, pm, an, cdv, ct, osl, rfl, lk, hcd, _⟩ := F.ex
  obtain ⟨cc, rfl⟩ := He.codeIn_ref hcd
  have hc : He.codeOf K (d.x, none) = cc := He.codeOf_eq (p := (d.x, none)) lk rfl
  have inT : (d.x, none) ∈ M.tf := List.mem_filterMap.2 ⟨i, m, by rw [e]; rfl⟩
  have tb := H.tabs _ inT
  have c1 : (He.cT K (d.x, none)).1 = cc := hc
  rw [c1] at tb
  refine ⟨cc, _, tb, rfl, List.mem_filterMap.2 ⟨i, m, by rw [e]; rfl⟩, fun p hp same => ?_⟩
  obtain ⟨j, mj, ej⟩ := List.mem_filterMap.1 hp
  cases q : M.defs[j]? with
  | none => rw [q] at ej; cases ej
  | some dj =>
    rw [q] at ej
    cases ej
    have mo := H.more
    simp only [MI.more, tabHB, and_tt, List.all_eq_true] at mo
    have one := mo.2 i m j mj
    rw [e, q] at one
    simp only [Bool.or_eq_true, decide_eq_true_eq, Bool.not_eq_true', decide_eq_false_iff_not] at one
    rcases one with one | one
    · rw [← one, e] at q
      cases q
      rfl
    · exact absurd same.symm one
/-- a def's name: its parameters -/
theorem MHas.np (H : MHas M K mg base) {s : Str} {k np : Nat} (e : M.flat.gi.lookup s = some (.fn k np)) (nt : k ≠ M.tryX) : ∃ d, M.pdefs[k]? = some d ∧ d.np = np := by
  have m := mem_look e
  have m : (s, GI.fn k np) ∈ M.fns := by
    rcases List.mem_append.1 m with m | m
    · rcases List.mem_append.1 m with m | m
      · exact m
      · obtain ⟨i, hi, m⟩ := List.mem_mapIdx.1 m
        cases m
    · obtain ⟨i, hi, m⟩ := List.mem_mapIdx.1 m
      cases m
  obtain ⟨i, hi, m⟩ := List.mem_filterMap.1 m
  split at m
  · cases m
  · rename_i nk
    cases q : M.defs[i]? with
    | none => rw [q] at m; cases m
    | some d =>
      rw [q] at m
      cases m
      have ok := H.s1
      simp only [MI.okB, and_tt, List.all_eq_true] at ok
      have okd := ok k hi
      unfold MI.defB at okd
      rw [q] at okd
      split at okd
      · rename_i d' f' e1 e2
        cases e1
        rw [if_neg nk, if_neg nt] at okd
        simp only [and_tt, dB, decide_eq_true_eq] at okd
        exact ⟨f', e2, okd.1.2.1.1.2⟩
      · cases okd
theorem MHas.stat (H : MHas M K mg base) : Stat (M.gy P w K mg base wf) M.ck := by
  have parts : ∀ {s : Str} {x : GI}, M.ck.gi.lookup s = some x → (s, x) ∈ M.fns ∨ (s, x) ∈ M.cs ∨ (s, x) ∈ M.xs := fun e => by
    have m := mem_look e
    rcases List.mem_append.1 m with m | m
    · exact (List.mem_append.1 m).imp (fun z => z) .inl
    · exact .inr (.inr m)
  have s2 := H.s2
  simp only [MI.okB2, and_tt, List.all_eq_true, decide_eq_true_eq, Bool.or_eq_true] at s2
  obtain ⟨⟨⟨⟨⟨⟨⟨hkn, his⟩, hzp⟩, _⟩, hx1⟩, hx2⟩, _⟩, _⟩ := s2
  refine ⟨fun s f np e => ?_, fun s n e => ?_, fun s e => H.free (List.contains_iff_mem.mp e), fun s x e => ?_, fun k L e => e, fun k L e => ?_, fun s k np e h => ⟨e, of_decide_eq_true h⟩, fun s k np h => ⟨h.1, H.np h.1 h.2⟩⟩
  · rcases parts e with m | m | m
    · obtain ⟨i, hi, m⟩ := List.mem_filterMap.1 m
      split at m
      · cases m
      · rename_i nk
        cases q : M.defs[i]? with
        | none => rw [q] at m; cases m
        | some d =>
          rw [q] at m
          cases m
          obtain ⟨fd, F, B, g, _⟩ := H.def_ q
          have fa : (M.gy P w K mg base wf).fa f = He.ga K d.x := by show He.ga K (M.nm f) = _; unfold MI.nm; rw [q]
          refine ⟨fd, d.ps, rfl, by rw [fa]; exact g, by rw [fa]; exact F.kp, B, ?_⟩
          have ok := H.s1
          simp only [MI.okB, and_tt, List.all_eq_true] at ok
          have okd := ok f hi
          unfold MI.defB at okd
          rw [q] at okd
          split at okd
          · rename_i d' f' e1 e2
            cases e1
            rw [if_neg nk] at okd
            simp only [and_tt, Bool.or_eq_true, Bool.not_eq_true', decide_eq_true_eq] at okd
            obtain ⟨⟨_, okd⟩, hl⟩ := okd
            by_cases ht : f = M.tryX
            · rw [if_pos ht] at okd
              simp only [and_tt, decide_eq_true_eq] at okd
              obtain ⟨⟨⟨tb, np1⟩, ns3⟩, bd⟩ := okd
              refine .inr fun m gl => ?_
              cases qk : M.defs[M.kinX]? with
              | none => rw [qk] at hkn; cases hkn
              | some dk =>
                rw [qk] at hkn
                have hkn : dk.x = M.tryI.kn := Option.some.inj hkn
                obtain ⟨fdk, Fk, Bk, gk, _⟩ := H.def_ qk
                have fak : (M.gy P w K mg base wf).fa M.kinX = He.ga K dk.x := by show He.ga K (M.nm M.kinX) = _; unfold MI.nm; rw [qk]
                have okk := ok M.kinX (List.mem_range.2 (List.getElem?_eq_some_iff.mp qk).1)
                unfold MI.defB at okk
                rw [qk] at okk
                have hbk : kinDB M.kinI dk = true := by
                  split at okk
                  · rename_i d2 f2 e3 e4
                    cases e3
                    rw [if_pos rfl] at okk
                    simp only [and_tt] at okk
                    exact okk.1.2
                  · cases okk
                have hd : (M.gy P w K mg base wf).prog.defs[f]? = some ⟨1, 3, .tryP M.tab⟩ := by
                  show M.prog.defs[f]? = _
                  rw [e2]
                  obtain ⟨n1, n2, b⟩ := f'
                  dsimp only at np1 ns3 bd
                  subst np1 ns3
                  cases b with
                  | tryP t => rw [of_decide_eq_true bd]
                  | _ => cases bd
                exact fn_try (fk := M.kinX) (t := M.tryI) (i := M.kinI) gl (by rw [fa]; exact F) hd tb (by rw [fak]; exact Fk) Bk hbk (by rw [fak, ← hkn]; exact gk) (H.free (List.contains_iff_mem.mp his)) (H.free (List.contains_iff_mem.mp hzp)) (H.glo (List.contains_iff_mem.mp hx1)) (H.glo (List.contains_iff_mem.mp hx2)) H.tryE
            · rw [if_neg ht] at okd
              refine .inl ⟨d, f', rfl, by rw [fa]; exact F, e2, okd, fun lm => ?_⟩
              exact H.tab q (hl.resolve_left (by rw [lm]; exact Bool.noConfusion)) F
          · cases okd
    · obtain ⟨i, hi, m⟩ := List.mem_mapIdx.1 m
      cases m
    · obtain ⟨i, hi, m⟩ := List.mem_mapIdx.1 m
      cases m
  · rcases parts e with m | m | m
    · obtain ⟨i, hi, m⟩ := List.mem_filterMap.1 m
      split at m
      · cases m
      · cases q : M.defs[i]? with
        | none => rw [q] at m; cases m
        | some d => rw [q] at m; cases m
    · obtain ⟨i, hi, m⟩ := List.mem_mapIdx.1 m
      cases m
      have mo := H.more
      simp only [MI.more, and_tt, List.all_eq_true] at mo
      have c := mo.1.1 M.cons[n] (List.getElem_mem hi)
      unfold conHB at c
      split at c
      · rename_i u hu
        obtain ⟨v, r, q⟩ := repB_ok (G := (M.gy P w K mg base wf).toGx) c
        refine ⟨u, v, M.cons[n].2, PySem.W.mg_of H.inK H.ns hu, r, ?_, q⟩
        show (M.cons.map (·.2))[n]? = _
        simp only [List.getElem?_map, List.getElem?_eq_getElem hi, Option.map_some]
      · cases c
    · obtain ⟨i, hi, m⟩ := List.mem_mapIdx.1 m
      cases m
  · rcases parts e with m | m | m
    · obtain ⟨i, hi, m⟩ := List.mem_filterMap.1 m
      split at m
      · cases m
      · cases q : M.defs[i]? with
        | none => rw [q] at m; cases m
        | some d => rw [q] at m; cases m
    · obtain ⟨i, hi, m⟩ := List.mem_mapIdx.1 m
      cases m
    · obtain ⟨i, hi, m⟩ := List.mem_mapIdx.1 m
      cases m
      have lt : x < M.tab.length := by
        rw [List.length_take] at hi
        omega
      obtain ⟨Dn, q, _, ex⟩ := H.exc lt
      obtain ⟨h1, h2, h3, h4⟩ := He.exc_ok ex
      have ga : (M.gy P w K mg base wf).ex x = He.ga K Dn := by
        show He.ga K (M.excs.getD x "") = _
        rw [List.getD_eq_getElem?_getD, q]; rfl
      have nm : (M.excs.take M.tab.length)[x] = Dn := by
        have e := @List.getElem?_eq_getElem _ _ _ hi
        rw [List.getElem?_take_of_lt lt, q] at e
        exact (Option.some.inj e).symm
      rw [nm, ga]
      exact ⟨_, _, _, _, PySem.F.excBase_ValueError, h1, H.glo (List.mem_of_getElem? q), h2, h3, h4⟩
  · have e : M.lamC k L = true := e
    unfold MI.lamC at e
    simp only [and_tt] at e
    obtain ⟨⟨e1, e2⟩, e3⟩ := e
    refine ⟨NdefX.nscope_by e1, fun cl pm cv ctv us hl => bind_plain e2 rfl hl, ?_⟩
    split at e3
    · rename_i np ns x hx
      simp only [and_tt, decide_eq_true_eq] at e3
      obtain ⟨⟨⟨rfl, rfl⟩, m⟩, f⟩ := e3
      exact ⟨x, hx, m, f⟩
    · cases e3
/-- a list of intL, told by Mini -/
theorem ints_rps {G : Gx} {ι : List Addr} {W : Addr → Prop} {H : Hp} : ∀ ns : List Int, Rps G ι W H (ns.map D.int) (ns.map V.int)
  | [] => .nil
  | n :: ns => .cons (.int n) (ints_rps ns)
/-- the law's def, its promise: for such a script it tells True -/
def spLaw (K : Frag) (cs : List (Addr × Addr)) (n : Nat) : Sp := fun vs H Q _ => ∃ (a : Addr) (ns : List Int), vs = [.ref a] ∧ ns.length ≤ n ∧ (∀ z ∈ ns, Builtin.Int.intBits z ≤ 1048576) ∧ (∀ p ∈ cs, H p.2 = some (.tbl #[])) ∧ SqL K H a (ns.map V.int) ∧ ∀ v H', v = .bl true → Q v H'
theorem law_ok {lx n m : Nat} {d : DI} {f : Mini.Dfn} {x : Str} {fd : FuncData} (H : MHas M K mg base) (e : M.defs[lx]? = some d) (hd : M.pdefs[lx]? = some f) (hp : d.ps = [x]) (n1 : lx ≠ M.kinX) (n2 : lx ≠ M.tryX) (F : FunD K d.x d.qual d.params d.body d.scope [] [] (He.ga K d.x) fd)
    (law : ∀ ns : List Int, ns.length ≤ n → (∀ z ∈ ns, Builtin.Int.intBits z ≤ 1048576) → ∃ st, Mini.callN M.prog wf (m + 1) lx [.val (.lst (ns.map .int))] [] = .ok (.bl true) st) :
    FnOk P w K mg base (L2N.CX P w) (m + 1) (He.ga K d.x) fd [x] (spLaw K (M.tf.map (He.cT K)) n) := by
  have S : Stat (M.gy P w K mg base wf) M.ck := H.stat
  have g := glo_all S m
  have ok := H.s1
  simp only [MI.okB, and_tt, List.all_eq_true] at ok
  have okd := ok lx (List.mem_range.2 (List.getElem?_eq_some_iff.mp e).1)
  unfold MI.defB at okd
  rw [e, show M.prog.defs[lx]? = some f from hd] at okd
  dsimp only at okd
  rw [if_neg n1, if_neg n2] at okd
  simp only [and_tt, Bool.or_eq_true, Bool.not_eq_true', decide_eq_true_eq] at okd
  obtain ⟨⟨_, okd⟩, hl⟩ := okd
  have fa : (M.gy P w K mg base wf).fa lx = He.ga K d.x := by show He.ga K (M.nm lx) = _; unfold MI.nm; rw [e]
  have fn := fn_succ (G := M.gy P w K mg base wf) (i := lx) g S.gx (by rw [fa]; exact F) hd okd fun lm => H.tab e (hl.resolve_left (by rw [lm]; exact Bool.noConfusion)) F
  rw [fa, hp] at fn
  refine ⟨fun vs H Q E ⟨a, ns, ev, _⟩ => by rw [ev]; rfl, fun A outer s H0 args us vs Q E hr e0 bnd rv ⟨a, ns, ev, hn, hb, ht, hs, go⟩ => ?_⟩
  subst ev
  refine fn.run A outer s H0 args us _ Q E hr e0 bnd rv ⟨rfl, [.val (.lst (ns.map .int))], [], [], fun _ => False, .cons ?_ .nil, ⟨rfl, List.nodup_nil, fun _ _ z => (by simp at z), fun _ _ z => (by simp at z)⟩, fun _ z => z.elim, ?_, ?_⟩
  · have nw : ¬ Wz [] (fun _ => False) a := by rintro (z | z); cases z; exact z
    refine Rp.lst (vs := ns.map V.int) ?_ (ints_rps ns)
    rcases hs with hs | hs
    · exact .inl ⟨hs, nw⟩
    · exact .inr hs
  · intro p hp2
    obtain ⟨j, mj, ej⟩ := List.mem_filterMap.1 hp2
    cases q : M.defs[j]? with
    | none => rw [q] at ej; cases ej
    | some dj =>
      rw [q] at ej
      cases ej
      exact LamX.TabS.nil (ht _ (List.mem_map.2 ⟨(dj.x, none), List.mem_filterMap.2 ⟨j, mj, by rw [q]; rfl⟩, rfl⟩))
  · obtain ⟨st, told⟩ := law ns hn hb
    rw [show Mini.callN (M.gy P w K mg base wf).prog (M.gy P w K mg base wf).wf (m + 1) lx [.val (.lst (ns.map .int))] [] = .ok (.bl true) st from told]
    intro v ι' H' _ _ _ r
    exact go v H' (by cases r; rfl)
/-- the law's row, from its text of Mini -/
theorem law_at {l : PySem.W.OpenLaw} {lx n m : Nat} {d : DI} {f : Mini.Dfn} {x : Str} {fa : Addr} (st1 : M.okB = true) (st2 : M.okB2 = true) (st3 : M.kinsB = true) (e : M.defs[lx]? = some d) (hd : M.pdefs[lx]? = some f) (hp : d.ps = [x]) (n1 : lx ≠ M.kinX) (n2 : lx ≠ M.tryX)
    (law : ∀ ns : List Int, ns.length ≤ n → (∀ z ∈ ns, Builtin.Int.intBits z ≤ 1048576) → ∃ st, Mini.callN M.prog wf (m + 1) lx [.val (.lst (ns.map .int))] [] = .ok (.bl true) st)
    (KX : K.In h) (ns : h.Ns mainGlobals mg) (hmg : mg d.x = some (.ref fa)) (c : He.SaysX M.fa M.fn [] M.tf M.more w h K) : LamX.LawAtS l w K (L2N.CX l.prog w) (m + 1) n x mg fa h := by
  have mk : ∀ b : Heap, K.In b → b.Ns mainGlobals mg → (∀ p ∈ M.tf.map (He.cT K), LamX.TabB b mg p.1 p.2) → MHas M K mg b := fun b ib nb tb => ⟨st1, st2, st3, ib, nb, c.t.d, c.more, fun p hp => tb _ (List.mem_map.2 ⟨p, hp, rfl⟩)⟩
  have mem := List.mem_of_getElem? e
  obtain ⟨fd, F⟩ := c.t.d.defs (d := ⟨(d.x, none), d.x, d.qual, d.params, d.body, d.scope, [], []⟩) (List.mem_map.2 ⟨d, mem, rfl⟩)
  have F : FunD K d.x d.qual d.params d.body d.scope [] [] (He.ga K d.x) fd := F
  have same : fa = He.ga K d.x := by
    have z := He.glo_ok KX ns (c.t.d.facts (f := .glo d.x) (List.mem_append_left _ (List.mem_append_left _ (List.mem_append_left _ (List.mem_map.2 ⟨d, mem, rfl⟩)))))
    rw [hmg] at z
    cases z
    rfl
  have ok := st1
  simp only [MI.okB, and_tt, List.all_eq_true] at ok
  have okd := ok lx (List.mem_range.2 (List.getElem?_eq_some_iff.mp e).1)
  unfold MI.defB at okd
  rw [e, show M.prog.defs[lx]? = some f from hd] at okd
  simp only [and_tt] at okd
  have par := okd.1.1
  have bp : ∀ (kV doc pm : Value) (an : Option Addr) (cdv ct : Value) (us : List Value), us.length = d.ps.length → bindArgs (PySem.W.fnOf d.x d.qual d.params d.body d.scope .none kV doc pm an cdv ct) ⟨us, []⟩ = pure (d.ps.zip us) := fun _ _ _ _ _ _ us hl => bind_plain par rfl hl
  have bs : ∀ (s : Shared) (u : Value), BindsTo s fd ⟨[u], []⟩ [(x, u)] := fun s u => by
    have z := F.bindsA bp s [u] (by rw [hp]; rfl)
    rw [hp] at z
    exact z
  refine ⟨fd, M.tf.map (He.cT K), spLaw K (M.tf.map (He.cT K)) n, fun p hp => ?_, fun p hp => ?_, fun p hp => ?_, bs, fun H a ns' hn hb ht hs => ⟨a, ns', rfl, hn, hb, ht, hs, fun _ _ z => z⟩, fun b ib nb tb => ?_⟩
  · obtain ⟨q, hq, rfl⟩ := List.mem_map.1 hp
    exact c.empty q hq
  · obtain ⟨q, hq, rfl⟩ := List.mem_map.1 hp
    exact c.out q hq
  · obtain ⟨q, hq, rfl⟩ := List.mem_map.1 hp
    exact PySem.W.codeHd_of_K KX (c.hd q hq)
  · rw [same]
    exact law_ok (mk b ib nb tb) e hd hp n1 n2 F law
end
theorem no_way {P : Program} {w : World} {o : List Env} {H : Hp} {s s' : Shared} {e : Value} (h : L2N.CX P w o H s (fun _ _ _ => False) e s') : False := by
  rcases h with ⟨_, _, _, _, _, _, _, _, _, _, _, _, z⟩
  exact z
end Snd
end
section
set_option maxRecDepth 100000
namespace K02
open Mini
def tab : List (List Nat) := [[43], [114, 101, 97, 100, 101, 114, 32, 43], [99, 108, 101, 97, 110, 101, 114, 32, 43], [99, 104, 97, 105, 110, 32, 43], [109, 97, 114, 107, 115, 32, 43], [110, 117, 109, 98, 101, 114, 32, 43], [119, 114, 105, 116, 101, 114, 32, 43], [102, 97, 99, 116, 115, 32, 43], [110, 97, 109, 101, 32, 43], [116, 101, 120, 116, 32, 43], [117, 110, 108, 105, 107, 101, 32, 43], [117, 110, 100, 111, 32, 43]]
/-- is_within -/
def f0 : Dfn := ⟨3, 3, .stmts [(.ret (.and (.prim .isInt (.var 0)) (.and (.not (.prim .isBool (.var 0))) (.chain .le .le (.var 1) (.var 0) (.var 2)))))]⟩
/-- has_items -/
def f1 : Dfn := ⟨3, 3, .stmts [(.ret (.and (.prim .isTuple (.var 0)) (.chain .le .le (.var 1) (.prim .len (.var 0)) (.var 2))))]⟩
/-- is_one_of -/
def f2 : Dfn := ⟨2, 2, .stmts [(.ret (.and (.prim .isStr (.var 0)) (.cmp .isin (.var 0) (.var 1))))]⟩
def f3c0 : Ex := (.lc (.call 2 [(.e (.var 1)), (.e (.glob 1))]) (.name 1) (.e (.idx (.var 0) (.con (.int 0)))) none)
/-- is_reader_value -/
def f3 : Dfn := ⟨1, 2, .stmts [(.ite (.or (.not (.call 1 [(.e (.var 0)), (.e (.con (.int 3))), (.e (.con (.int 3)))])) (.not (.call 1 [(.e (.idx (.var 0) (.con (.int 0)))), (.e (.con (.int 1))), (.e (.con (.int 3)))]))) [(.ret (.con (.bl false)))] []), (.ite (.not (.prim .all f3c0)) [(.ret (.con (.bl false)))] []), (.ret (.and (.call 2 [(.e (.idx (.var 0) (.con (.int 1)))), (.e (.glob 2))]) (.call 0 [(.e (.idx (.var 0) (.con (.int 2)))), (.e (.con (.int 1))), (.e (.con (.int 3)))])))]⟩
def f4b0 : List Stm := [(.set 1 false (.bin .add (.var 1) (.lst [(.bin .add (.var 2) (.con (.str [43]))), (.bin .add (.var 2) (.con (.str [45]))), (.bin .add (.bin .add (.con (.str [38])) (.var 2)) (.con (.str [43]))), (.bin .add (.bin .add (.con (.str [38])) (.var 2)) (.con (.str [45])))])))]
/-- all_marks -/
def f4 : Dfn := ⟨1, 3, .stmts [(.set 1 false (.lst [(.con (.str [46]))])), (.for (.name 2) (.e (.slice (.glob 0) none (some (.var 0)))) f4b0), (.ret (.prim .sorted (.var 1)))]⟩
def f5c0 : Ex := (.lc (.call 2 [(.e (.var 4)), (.e (.var 3))]) (.name 4) (.e (.var 1)) none)
/-- is_text_value -/
def f5 : Dfn := ⟨3, 5, .stmts [(.set 3 false (.call 4 [(.e (.var 0))])), (.ret (.and (.call 1 [(.e (.var 1)), (.e (.con (.int 0))), (.e (.var 2))]) (.prim .all f5c0)))]⟩
/-- need_reader -/
def f6 : Dfn := ⟨1, 1, .stmts [(.ite (.not (.call 3 [(.e (.var 0))])) [(.raise 1)] [])]⟩
/-- need_text -/
def f7 : Dfn := ⟨2, 2, .stmts [(.ite (.not (.call 5 [(.e (.var 0)), (.e (.var 1)), (.e (.glob 3))])) [(.raise 4)] [])]⟩
/-- kind_of -/
def f8 : Dfn := ⟨2, 2, .stmts [(.ret (.idx (.idx (.var 0) (.con (.int 0))) (.meth .sindex (.glob 0) [(.var 1)])))]⟩
def f9c0 : Ex := (.lc (.cmp .eq (.call 8 [(.e (.var 0)), (.e (.var 2))]) (.con (.str [109, 111, 100, 101]))) (.name 2) (.e (.slice (.var 1) none (some (.neg (.con (.int 1)))))) none)
/-- reads_raw -/
def f9 : Dfn := ⟨2, 3, .stmts [(.ite (.or (.cmp .eq (.var 1) (.tup [])) (.cmp .ne (.call 8 [(.e (.var 0)), (.e (.idx (.var 1) (.neg (.con (.int 1)))))]) (.con (.str [114, 97, 119])))) [(.ret (.con (.bl false)))] []), (.ret (.not (.prim .any f9c0)))]⟩
/-- sign_in -/
def f10 : Dfn := ⟨1, 1, .stmts [(.ret (.ite (.cmp .eq (.idx (.var 0) (.con (.int 0))) (.con (.str [38]))) (.slice (.var 0) (some (.con (.int 1))) none) (.var 0)))]⟩
/-- step -/
def f11 : Dfn := ⟨3, 3, .stmts [(.ite (.call 9 [(.e (.var 0)), (.e (.var 1))]) [(.ite (.cmp .eq (.var 2) (.bin .add (.idx (.var 1) (.neg (.con (.int 1)))) (.con (.str [45])))) [(.ret (.tup [(.slice (.var 1) none (some (.neg (.con (.int 1))))), (.lst [(.tup [(.con (.str [99, 108, 111, 115, 101])), (.idx (.var 1) (.neg (.con (.int 1))))])])]))] []), (.ret (.tup [(.var 1), (.lst [(.tup [(.con (.str [115, 105, 103, 110])), (.call 10 [(.e (.var 2))])])])]))] []), (.ite (.or (.cmp .eq (.var 2) (.con (.str [46]))) (.cmp .eq (.idx (.var 2) (.con (.int 0))) (.con (.str [38])))) [(.ret (.tup [(.var 1), (.lst [(.tup [(.con (.str [115, 105, 103, 110])), (.call 10 [(.e (.var 2))])])])]))] []), (.ret (.ite (.cmp .eq (.idx (.var 2) (.con (.int 1))) (.con (.str [43]))) (.call 12 [(.e (.var 0)), (.e (.var 1)), (.e (.idx (.var 2) (.con (.int 0))))]) (.call 13 [(.e (.var 0)), (.e (.var 1)), (.e (.idx (.var 2) (.con (.int 0))))])))]⟩
/-- opened -/
def f12 : Dfn := ⟨3, 5, .stmts [(.par [3, 4] [false, false] [(.call 8 [(.e (.var 0)), (.e (.var 2))]), (.lst [])]), (.ite (.cmp .eq (.var 3) (.con (.str [118, 111, 105, 100]))) [(.ret (.tup [(.var 1), (.lst [(.tup [(.con (.str [118, 111, 105, 100])), (.var 2)])])]))] []), (.ite (.and (.cmp .eq (.var 3) (.con (.str [115, 101, 108, 102]))) (.and (.cmp .ne (.var 1) (.tup [])) (.cmp .eq (.idx (.var 1) (.neg (.con (.int 1)))) (.var 2)))) [(.par [1, 4] [false, false] [(.slice (.var 1) none (some (.neg (.con (.int 1))))), (.lst [(.tup [(.con (.str [99, 108, 111, 115, 101])), (.var 2)])])])] []), (.ite (.cmp .ge (.prim .len (.var 1)) (.idx (.var 0) (.con (.int 2)))) [(.ret (.tup [(.var 1), (.var 4)]))] []), (.ret (.tup [(.bin .add (.var 1) (.tup [(.var 2)])), (.bin .add (.var 4) (.lst [(.tup [(.con (.str [111, 112, 101, 110])), (.var 2)])]))]))]⟩
def f13c0 : Ex := (.lc (.tup [(.con (.str [99, 108, 111, 115, 101])), (.var 4)]) (.name 4) (.e (.slice (.rev (.var 1)) none (some (.var 3)))) none)
/-- closed -/
def f13 : Dfn := ⟨3, 5, .stmts [(.set 3 false (.con (.int 0))), (.ite (.or (.cmp .eq (.call 8 [(.e (.var 0)), (.e (.var 2))]) (.con (.str [118, 111, 105, 100]))) (.cmp .eq (.var 1) (.tup []))) [(.set 3 false (.con (.int 0)))] [(.ite (.or (.cmp .eq (.idx (.var 1) (.neg (.con (.int 1)))) (.var 2)) (.cmp .eq (.idx (.var 0) (.con (.int 1))) (.con (.str [116, 111, 112])))) [(.set 3 false (.con (.int 1)))] [(.ite (.and (.cmp .eq (.idx (.var 0) (.con (.int 1))) (.con (.str [115, 101, 97, 114, 99, 104]))) (.cmp .isin (.var 2) (.var 1))) [(.set 3 false (.bin .add (.meth .tindex (.rev (.var 1)) [(.var 2)]) (.con (.int 1))))] [])])]), (.ret (.tup [(.slice (.var 1) none (some (.bin .sub (.prim .len (.var 1)) (.var 3)))), f13c0]))]⟩
def f14c0 : Ex := (.lc (.tup [(.con (.str [99, 108, 111, 115, 101])), (.var 1)]) (.name 1) (.e (.rev (.var 0))) none)
/-- end_deeds -/
def f14 : Dfn := ⟨1, 2, .stmts [(.ret f14c0)]⟩
def f15b0 : List Stm := [(.setT (.tup [(.name 2), (.name 5)]) (.call 11 [(.e (.var 0)), (.e (.var 2)), (.e (.var 4))])), (.set 3 false (.bin .add (.var 3) (.var 5)))]
/-- all_deeds -/
def f15 : Dfn := ⟨2, 6, .stmts [(.par [2, 3] [false, false] [(.tup []), (.lst [])]), (.for (.name 4) (.e (.var 1)) f15b0), (.ret (.bin .add (.var 3) (.call 14 [(.e (.var 2))])))]⟩
def f16b0 : List Stm := [(.ite (.cmp .eq (.var 3) (.con (.str [111, 112, 101, 110]))) [(.par [1, 2] [false, false] [(.bin .add (.var 1) (.lst [(.tup [])])), (.bin .add (.var 2) (.lst [(.var 4)]))])] [(.ite (.cmp .eq (.var 3) (.con (.str [99, 108, 111, 115, 101]))) [(.set 5 false (.tup [(.var 4), (.idx (.var 1) (.neg (.con (.int 1))))])), (.par [1, 2] [false, false] [(.bin .add (.slice (.var 1) none (some (.neg (.con (.int 2))))) (.lst [(.bin .add (.idx (.var 1) (.neg (.con (.int 2)))) (.tup [(.var 5)]))])), (.slice (.var 2) none (some (.neg (.con (.int 1)))))])] [(.set 6 false (.ite (.cmp .eq (.var 3) (.con (.str [118, 111, 105, 100]))) (.tup [(.var 4), (.tup [])]) (.var 4))), (.set 1 false (.bin .add (.slice (.var 1) none (some (.neg (.con (.int 1))))) (.lst [(.bin .add (.idx (.var 1) (.neg (.con (.int 1)))) (.tup [(.var 6)]))])))])])]
/-- tree_of -/
def f16 : Dfn := ⟨1, 7, .stmts [(.par [1, 2] [false, false] [(.lst [(.tup [])]), (.lst [])]), (.for (.tup [(.name 3), (.name 4)]) (.e (.var 0)) f16b0), (.ret (.idx (.var 1) (.con (.int 0))))]⟩
/-- read -/
def f17 : Dfn := ⟨2, 2, .stmts [(.expr (.call 6 [(.e (.var 0))])), (.expr (.call 7 [(.e (.prim .len (.idx (.var 0) (.con (.int 0))))), (.e (.var 1))])), (.ret (.call 16 [(.e (.call 15 [(.e (.var 0)), (.e (.var 1))]))]))]⟩
def f18b0 : List Stm := [(.set 2 false (.idx (.call 11 [(.e (.var 0)), (.e (.var 2)), (.e (.var 4))]) (.con (.int 0)))), (.append 3 (.var 2))]
/-- piles -/
def f18 : Dfn := ⟨2, 5, .stmts [(.expr (.call 6 [(.e (.var 0))])), (.expr (.call 7 [(.e (.prim .len (.idx (.var 0) (.con (.int 0))))), (.e (.var 1))])), (.par [2, 3] [false, true] [(.tup []), (.lst [])]), (.for (.name 4) (.e (.var 1)) f18b0), (.freeze 3), (.ret (.var 3))]⟩
/-- _law_deck -/
def f19 : Dfn := ⟨2, 2, .stmts [(.ite (.cmp .ge (.var 0) (.bin .pow (.con (.int 10)) (.con (.int 18)))) [(.ret (.cellL [(.bin .sub (.var 0) (.bin .pow (.con (.int 10)) (.con (.int 18)))), (.bin .mod (.var 0) (.con (.int 2147483579))), (.var 1)]))] []), (.ret (.cellL [(.con (.int 0)), (.bin .mod (.var 0) (.con (.int 2147483579))), (.var 1)]))]⟩
/-- _law_pick -/
def f20 : Dfn := ⟨2, 4, .stmts [(.ite (.cmp .gt (.idx (.var 0) (.con (.int 0))) (.con (.int 1))) [(.set 2 false (.bin .mod (.prim .int (.idx (.var 0) (.con (.int 0)))) (.var 1))), (.setIdx 0 (.con (.int 0)) (.bin .fdiv (.idx (.var 0) (.con (.int 0))) (.var 1))), (.ret (.var 2))] []), (.setIdx 0 (.con (.int 2)) (.bin .add (.idx (.var 0) (.con (.int 2))) (.con (.int 1)))), (.set 3 false (.bin .mod (.bin .pow (.bin .add (.idx (.var 0) (.con (.int 1))) (.bin .mul (.con (.int 15485867)) (.idx (.var 0) (.con (.int 2))))) (.con (.int 5))) (.con (.int 2147483647)))), (.set 2 false (.bin .fdiv (.bin .mod (.bin .pow (.bin .add (.var 3) (.bin .mul (.con (.int 7919)) (.idx (.var 0) (.con (.int 2))))) (.con (.int 3))) (.con (.int 2147483629))) (.con (.int 32)))), (.ret (.bin .mod (.prim .int (.var 2)) (.var 1)))]⟩
/-- _law_one -/
def f21 : Dfn := ⟨2, 2, .stmts [(.ret (.idx (.var 1) (.call 20 [(.e (.var 0)), (.e (.prim .len (.var 1)))])))]⟩
/-- _law_sort -/
def f22 : Dfn := ⟨1, 1, .stmts [(.ite (.prim .isBool (.var 0)) [(.ret (.con (.int 1)))] []), (.ite (.prim .isInt (.var 0)) [(.ret (.con (.int 2)))] []), (.ite (.prim .isStr (.var 0)) [(.ret (.con (.int 3)))] []), (.ite (.prim .isList (.var 0)) [(.ret (.con (.int 4)))] []), (.ret (.ite (.prim .isTuple (.var 0)) (.con (.int 5)) (.con (.int 6))))]⟩
def f23c0 : Ex := (.lc (.var 2) (.tup [(.name 2), (.name 3)]) (.enum (.var 0)) (some (.not (.call 23 [(.e (.var 3)), (.e (.idx (.var 1) (.var 2)))]))))
/-- _law_same -/
def f23 : Dfn := ⟨2, 4, .stmts [(.ite (.cmp .ne (.call 22 [(.e (.var 0))]) (.call 22 [(.e (.var 1))])) [(.ret (.con (.bl false)))] []), (.ite (.and (.cmp .gt (.call 22 [(.e (.var 0))]) (.con (.int 3))) (.cmp .lt (.call 22 [(.e (.var 0))]) (.con (.int 6)))) [(.ite (.cmp .ne (.prim .len (.var 0)) (.prim .len (.var 1))) [(.ret (.con (.bl false)))] []), (.ret (.cmp .eq f23c0 (.lst [])))] []), (.ret (.cmp .eq (.var 0) (.var 1)))]⟩
/-- _law_kin -/
def f24 : Dfn := ⟨1, 5, .stmts []⟩
/-- _law_try -/
def f25 : Dfn := ⟨1, 3, .tryP tab⟩
/-- _law_readers -/
def f26 : Dfn := ⟨0, 2, .stmts [(.setT (.tup [(.name 0), (.name 1)]) (.tup [(.tup [(.tup [(.con (.str [110, 101, 115, 116])), (.con (.str [110, 101, 115, 116]))]), (.con (.str [112, 97, 115, 115])), (.con (.int 2))]), (.tup [(.tup [(.con (.str [114, 97, 119])), (.con (.str [110, 101, 115, 116]))]), (.con (.str [112, 97, 115, 115])), (.con (.int 2))])])), (.ret (.tup [(.var 0), (.var 1), (.tup [(.tup [(.con (.str [109, 111, 100, 101])), (.con (.str [114, 97, 119])), (.con (.str [110, 101, 115, 116]))]), (.con (.str [115, 101, 97, 114, 99, 104])), (.con (.int 3))]), (.tup [(.tup [(.con (.str [110, 101, 115, 116])), (.con (.str [118, 111, 105, 100]))]), (.con (.str [116, 111, 112])), (.con (.int 2))])]))]⟩
def f27b0 : List Stm := [(.set 1 false (.bin .add (.var 1) (.lst [(.bin .add (.bin .add (.var 3) (.var 2)) (.con (.str [43]))), (.bin .add (.bin .add (.var 3) (.var 2)) (.con (.str [45])))])))]
def f27b1 : List Stm := [(.for (.name 3) (.e (.lst [(.con (.str [])), (.con (.str [38]))])) f27b0)]
/-- _law_marks -/
def f27 : Dfn := ⟨1, 4, .stmts [(.set 1 false (.lst [(.con (.str [46]))])), (.for (.name 2) (.e (.slice (.prim .list (.con (.str [97, 98, 99]))) none (some (.var 0)))) f27b1), (.ret (.prim .sorted (.var 1)))]⟩
/-- _law_kind -/
def f28 : Dfn := ⟨2, 2, .stmts [(.ret (.idx (.idx (.var 0) (.con (.int 0))) (.meth .sindex (.con (.str [97, 98, 99])) [(.var 1)])))]⟩
def f29c0 : Ex := (.lc (.con (.int 1)) (.name 2) (.e (.slice (.var 1) none (some (.neg (.con (.int 1)))))) (some (.cmp .eq (.call 28 [(.e (.var 0)), (.e (.var 2))]) (.con (.str [109, 111, 100, 101])))))
/-- _law_is_raw -/
def f29 : Dfn := ⟨2, 3, .stmts [(.ite (.or (.cmp .eq (.prim .len (.var 1)) (.con (.int 0))) (.cmp .ne (.call 28 [(.e (.var 0)), (.e (.idx (.var 1) (.neg (.con (.int 1)))))]) (.con (.str [114, 97, 119])))) [(.ret (.con (.bl false)))] []), (.ret (.cmp .eq f29c0 (.lst [])))]⟩
/-- _law_shut -/
def f30 : Dfn := ⟨1, 2, .stmts [(.set 1 false (.idx (.var 0) (.neg (.con (.int 1))))), (.ret (.bin .add (.slice (.var 0) none (some (.neg (.con (.int 2))))) (.lst [(.tup [(.idx (.idx (.var 0) (.neg (.con (.int 2)))) (.con (.int 0))), (.bin .add (.idx (.idx (.var 0) (.neg (.con (.int 2)))) (.con (.int 1))) (.tup [(.tup [(.idx (.var 1) (.con (.int 0))), (.idx (.var 1) (.con (.int 1)))])]))])])))]⟩
/-- _law_put -/
def f31 : Dfn := ⟨2, 2, .stmts [(.ret (.bin .add (.slice (.var 0) none (some (.neg (.con (.int 1))))) (.lst [(.tup [(.idx (.idx (.var 0) (.neg (.con (.int 1)))) (.con (.int 0))), (.bin .add (.idx (.idx (.var 0) (.neg (.con (.int 1)))) (.con (.int 1))) (.tup [(.var 1)]))])])))]⟩
def f32c0 : Ex := (.lc (.idx (.var 7) (.con (.int 0))) (.name 7) (.e (.slice (.var 1) (some (.con (.int 1))) none)) none)
def f32b0 : List Stm := [(.set 1 false (.call 30 [(.e (.var 1))]))]
/-- _law_taken -/
def f32 : Dfn := ⟨3, 10, .stmts [(.setT (.tup [(.name 3), (.name 4), (.name 5)]) (.var 0)), (.set 6 false f32c0), (.set 8 false (.slice (.var 2) (some (.neg (.con (.int 2)))) (some (.neg (.con (.int 1)))))), (.ite (.call 29 [(.e (.var 0)), (.e (.var 6))]) [(.ite (.cmp .eq (.var 2) (.bin .add (.idx (.var 6) (.neg (.con (.int 1)))) (.con (.str [45])))) [(.ret (.call 30 [(.e (.var 1))]))] []), (.ret (.call 31 [(.e (.var 1)), (.e (.meth .replace (.var 2) [(.con (.str [38])), (.con (.str []))]))]))] []), (.ite (.or (.cmp .eq (.var 2) (.con (.str [46]))) (.cmp .eq (.slice (.var 2) none (some (.con (.int 1)))) (.con (.str [38])))) [(.ret (.call 31 [(.e (.var 1)), (.e (.meth .replace (.var 2) [(.con (.str [38])), (.con (.str []))]))]))] []), (.set 9 false (.call 28 [(.e (.var 0)), (.e (.var 8))])), (.ite (.cmp .eq (.idx (.var 2) (.con (.int 1))) (.con (.str [43]))) [(.ite (.cmp .eq (.var 9) (.con (.str [118, 111, 105, 100]))) [(.ret (.call 31 [(.e (.var 1)), (.e (.tup [(.var 8), (.tup [])]))]))] []), (.ite (.and (.cmp .eq (.var 9) (.con (.str [115, 101, 108, 102]))) (.cmp .eq (.slice (.var 6) (some (.neg (.con (.int 1)))) none) (.lst [(.var 8)]))) [(.set 1 false (.call 30 [(.e (.var 1))]))] []), (.ret (.ite (.cmp .le (.prim .len (.var 1)) (.var 5)) (.bin .add (.var 1) (.lst [(.tup [(.var 8), (.tup [])])])) (.var 1)))] []), (.ite (.or (.cmp .eq (.var 9) (.con (.str [118, 111, 105, 100]))) (.cmp .eq (.var 6) (.lst []))) [(.ret (.var 1))] []), (.ite (.or (.cmp .eq (.idx (.var 6) (.neg (.con (.int 1)))) (.var 8)) (.cmp .eq (.var 4) (.con (.str [116, 111, 112])))) [(.ret (.call 30 [(.e (.var 1))]))] []), (.ite (.and (.cmp .eq (.var 4) (.con (.str [115, 101, 97, 114, 99, 104]))) (.cmp .isin (.var 8) (.var 6))) [(.while (.cmp .ne (.idx (.idx (.var 1) (.neg (.con (.int 1)))) (.con (.int 0))) (.var 8)) f32b0), (.ret (.call 30 [(.e (.var 1))]))] []), (.ret (.var 1))]⟩
def f33b0 : List Stm := [(.set 2 false (.call 32 [(.e (.var 0)), (.e (.var 2)), (.e (.var 3))]))]
def f33c0 : Ex := (.lc (.idx (.var 5) (.con (.int 0))) (.name 5) (.e (.slice (.var 2) (some (.con (.int 1))) none)) none)
def f33b1 : List Stm := [(.set 2 false (.call 30 [(.e (.var 2))]))]
/-- _law_read -/
def f33 : Dfn := ⟨2, 6, .stmts [(.set 2 false (.lst [(.tup [(.con (.str [])), (.tup [])])])), (.for (.name 3) (.e (.var 1)) f33b0), (.set 4 false (.prim .tuple f33c0)), (.while (.cmp .gt (.prim .len (.var 2)) (.con (.int 1))) f33b1), (.ret (.tup [(.idx (.idx (.var 2) (.con (.int 0))) (.con (.int 1))), (.var 4)]))]⟩
def f34c0 : Ex := (.lc (.call 21 [(.e (.var 0)), (.e (.var 3))]) (.name 5) (.range none (.var 1)) none)
/-- _law_a_reader -/
def f34 : Dfn := ⟨3, 6, .stmts [(.set 3 false (.lst [(.con (.str [110, 101, 115, 116])), (.con (.str [110, 101, 115, 116])), (.con (.str [114, 97, 119])), (.con (.str [118, 111, 105, 100])), (.con (.str [115, 101, 108, 102])), (.con (.str [109, 111, 100, 101]))])), (.set 4 false (.prim .tuple f34c0)), (.ret (.tup [(.var 4), (.call 21 [(.e (.var 0)), (.e (.lst [(.con (.str [112, 97, 115, 115])), (.con (.str [115, 101, 97, 114, 99, 104])), (.con (.str [116, 111, 112]))]))]), (.bin .add (.con (.int 1)) (.call 20 [(.e (.var 0)), (.e (.var 2))]))]))]⟩
def f35c0 : Ex := (.lc (.call 21 [(.e (.var 0)), (.e (.call 27 [(.e (.var 1))]))]) (.name 3) (.range none (.call 20 [(.e (.var 0)), (.e (.bin .add (.var 2) (.con (.int 1))))])) none)
/-- _law_a_text -/
def f35 : Dfn := ⟨3, 4, .stmts [(.ret (.prim .tuple f35c0))]⟩
/-- _law_written -/
def f36 : Dfn := ⟨0, 7, .stmts [(.setT (.tup [(.name 0), (.name 1), (.name 2), (.name 3)]) (.call 26 [])), (.ite (.cmp .ne (.call 17 [(.e (.var 0)), (.e (.tup [(.con (.str [97, 43])), (.con (.str [98, 43])), (.con (.str [97, 45])), (.con (.str [46]))]))]) (.tup [(.tup [(.con (.str [97])), (.tup [(.tup [(.con (.str [98])), (.tup [(.con (.str [46]))])])])])])) [(.ret (.con (.bl false)))] []), (.ite (.cmp .ne (.call 17 [(.e (.var 1)), (.e (.tup [(.con (.str [97, 43])), (.con (.str [98, 43])), (.con (.str [46])), (.con (.str [97, 45])), (.con (.str [98, 43]))]))]) (.tup [(.tup [(.con (.str [97])), (.tup [(.con (.str [98, 43])), (.con (.str [46]))])]), (.tup [(.con (.str [98])), (.tup [])])])) [(.ret (.con (.bl false)))] []), (.ite (.cmp .ne (.call 17 [(.e (.var 2)), (.e (.tup [(.con (.str [98, 43])), (.con (.str [99, 43])), (.con (.str [98, 45]))]))]) (.tup [(.tup [(.con (.str [98])), (.tup [(.con (.str [99, 43]))])])])) [(.ret (.con (.bl false)))] []), (.ite (.cmp .ne (.call 17 [(.e (.var 2)), (.e (.tup [(.con (.str [97, 43])), (.con (.str [98, 43])), (.con (.str [99, 43])), (.con (.str [97, 45])), (.con (.str [46]))]))]) (.tup [(.tup [(.con (.str [97])), (.tup [(.tup [(.con (.str [98])), (.tup [(.tup [(.con (.str [99])), (.tup [])])])])])]), (.con (.str [46]))])) [(.ret (.con (.bl false)))] []), (.ite (.cmp .ne (.call 17 [(.e (.var 3)), (.e (.tup [(.con (.str [98, 43])), (.con (.str [97, 43])), (.con (.str [98, 45])), (.con (.str [98, 45])), (.con (.str [97, 43])), (.con (.str [98, 45]))]))]) (.tup [(.tup [(.con (.str [98])), (.tup [])]), (.tup [(.con (.str [97])), (.tup [(.tup [(.con (.str [97])), (.tup [])])])])])) [(.ret (.con (.bl false)))] []), (.ite (.cmp .ne (.call 17 [(.e (.var 1)), (.e (.tup [(.con (.str [38, 97, 43])), (.con (.str [97, 43])), (.con (.str [38, 97, 45])), (.con (.str [38, 98, 43]))]))]) (.tup [(.con (.str [97, 43])), (.tup [(.con (.str [97])), (.tup [(.con (.str [97, 45])), (.con (.str [98, 43]))])])])) [(.ret (.con (.bl false)))] []), (.ite (.cmp .ne (.call 18 [(.e (.var 0)), (.e (.tup [(.con (.str [97, 43])), (.con (.str [97, 43])), (.con (.str [97, 43])), (.con (.str [98, 45])), (.con (.str [97, 45]))]))]) (.lst [(.tup [(.con (.str [97]))]), (.tup [(.con (.str [97])), (.con (.str [97]))]), (.tup [(.con (.str [97])), (.con (.str [97]))]), (.tup [(.con (.str [97])), (.con (.str [97]))]), (.tup [(.con (.str [97]))])])) [(.ret (.con (.bl false)))] []), (.set 4 false (.tup [(.tup [(.con (.str [115, 101, 108, 102])), (.con (.str [110, 101, 115, 116]))]), (.con (.str [112, 97, 115, 115])), (.con (.int 2))])), (.ite (.cmp .ne (.call 18 [(.e (.var 4)), (.e (.tup [(.con (.str [97, 43])), (.con (.str [97, 43])), (.con (.str [98, 43])), (.con (.str [97, 43]))]))]) (.lst [(.tup [(.con (.str [97]))]), (.tup [(.con (.str [97]))]), (.tup [(.con (.str [97])), (.con (.str [98]))]), (.tup [(.con (.str [97])), (.con (.str [98]))])])) [(.ret (.con (.bl false)))] []), (.ite (.cmp .ne (.call 17 [(.e (.var 4)), (.e (.tup [(.con (.str [97, 43])), (.con (.str [97, 43])), (.con (.str [46]))]))]) (.tup [(.tup [(.con (.str [97])), (.tup [])]), (.tup [(.con (.str [97])), (.tup [(.con (.str [46]))])])])) [(.ret (.con (.bl false)))] []), (.ite (.cmp .ne (.call 17 [(.e (.var 0)), (.e (.tup []))]) (.tup [])) [(.ret (.con (.bl false)))] []), (.ite (.cmp .ne (.call 18 [(.e (.var 0)), (.e (.tup []))]) (.lst [])) [(.ret (.con (.bl false)))] []), (.ite (.cmp .ne (.call 17 [(.e (.tup [(.tup [(.con (.str [115, 101, 108, 102])), (.con (.str [110, 101, 115, 116]))]), (.con (.str [112, 97, 115, 115])), (.con (.int 3))])), (.e (.tup [(.con (.str [97, 43])), (.con (.str [98, 43])), (.con (.str [97, 43]))]))]) (.tup [(.tup [(.con (.str [97])), (.tup [(.tup [(.con (.str [98])), (.tup [(.tup [(.con (.str [97])), (.tup [])])])])])])])) [(.ret (.con (.bl false)))] []), (.set 5 false (.tup [(.tup [(.con (.str [110, 101, 115, 116])), (.con (.str [118, 111, 105, 100]))]), (.con (.str [115, 101, 97, 114, 99, 104])), (.con (.int 3))])), (.set 6 false (.tup [(.tup [(.con (.str [97])), (.tup [(.tup [(.con (.str [97])), (.tup [(.tup [(.con (.str [97])), (.tup [(.tup [(.con (.str [98])), (.tup [])]), (.con (.str [46]))])])])])])])])), (.ite (.cmp .ne (.call 17 [(.e (.var 5)), (.e (.tup [(.con (.str [97, 43])), (.con (.str [97, 43])), (.con (.str [97, 43])), (.con (.str [98, 43])), (.con (.str [97, 43])), (.con (.str [46]))]))]) (.var 6)) [(.ret (.con (.bl false)))] []), (.set 6 false (.lst [(.tup [(.con (.str [97]))]), (.tup [(.con (.str [97])), (.con (.str [97]))]), (.tup [(.con (.str [97])), (.con (.str [97])), (.con (.str [98]))]), (.tup [(.con (.str [97]))])])), (.ite (.cmp .ne (.call 18 [(.e (.tup [(.tup [(.con (.str [110, 101, 115, 116])), (.con (.str [110, 101, 115, 116]))]), (.con (.str [115, 101, 97, 114, 99, 104])), (.con (.int 3))])), (.e (.tup [(.con (.str [97, 43])), (.con (.str [97, 43])), (.con (.str [98, 43])), (.con (.str [97, 45]))]))]) (.var 6)) [(.ret (.con (.bl false)))] []), (.ret (.cmp .eq (.call 18 [(.e (.var 1)), (.e (.tup [(.con (.str [38, 97, 43])), (.con (.str [97, 43])), (.con (.str [98, 45])), (.con (.str [97, 45]))]))]) (.lst [(.tup []), (.tup [(.con (.str [97]))]), (.tup [(.con (.str [97]))]), (.tup [])])))]⟩
def f37c0 : Ex := (.lc (.idx (.call 33 [(.e (.var 5)), (.e (.slice (.var 6) none (some (.bin .add (.var 8) (.con (.int 1))))))]) (.con (.int 1))) (.name 8) (.range none (.prim .len (.var 6))) none)
def f37b0 : List Stm := [(.set 4 false (.bin .add (.con (.int 1)) (.call 20 [(.e (.var 2)), (.e (.con (.int 3)))]))), (.set 5 false (.call 34 [(.e (.var 2)), (.e (.var 4)), (.e (.con (.int 3)))])), (.set 6 false (.call 35 [(.e (.var 2)), (.e (.var 4)), (.e (.call 21 [(.e (.var 2)), (.e (.lst [(.con (.int 5)), (.con (.int 12)), (.con (.int 40))]))]))])), (.ite (.not (.call 23 [(.e (.call 17 [(.e (.var 5)), (.e (.var 6))])), (.e (.idx (.call 33 [(.e (.var 5)), (.e (.var 6))]) (.con (.int 0))))])) [(.ret (.con (.bl false)))] []), (.set 7 false f37c0), (.ite (.not (.call 23 [(.e (.call 18 [(.e (.var 5)), (.e (.var 6))])), (.e (.var 7))])) [(.ret (.con (.bl false)))] [])]
def f37b1 : List Stm := [(.ite (.cmp .ne (.call 25 [(.lam 39 [9, 5, 10])]) (.con (.str [109, 97, 114, 107, 115, 32, 43]))) [(.ret (.con (.bl false)))] [])]
def f37b2 : List Stm := [(.ite (.cmp .ne (.call 25 [(.lam 38 [9])]) (.con (.str [114, 101, 97, 100, 101, 114, 32, 43]))) [(.ret (.con (.bl false)))] []), (.for (.name 10) (.e (.lst [(.con .non), (.lst [(.con (.str [46]))]), (.tup [(.con (.str [100, 43]))]), (.con (.str [46])), (.bin .mul (.tup [(.con (.str [46]))]) (.con (.int 41)))])) f37b1)]
def f37b3 : List Stm := [(.set 2 false (.call 19 [(.e (.var 1)), (.e (.con (.int 2)))])), (.for (.name 3) (.range none (.con (.int 12))) f37b0), (.for (.name 9) (.e (.tup [(.fnv 17), (.fnv 18)])) f37b2)]
/-- law -/
def f37 : Dfn := ⟨1, 11, .stmts [(.for (.name 1) (.e (.slice (.bin .add (.lst [(.con (.int 0))]) (.var 0)) none (some (.con (.int 10))))) f37b3), (.ret (.call 36 []))]⟩
def f38 : Dfn := ⟨1, 1, .expr (.callv 0 [(.e (.con .non)), (.e (.con .non))])⟩
def f39 : Dfn := ⟨3, 3, .expr (.callv 0 [(.e (.var 1)), (.e (.var 2))])⟩
def globs : List D := [(.str [97, 98, 99]), (.tup [(.str [110, 101, 115, 116]), (.str [118, 111, 105, 100]), (.str [114, 97, 119]), (.str [115, 101, 108, 102]), (.str [109, 111, 100, 101])]), (.tup [(.str [112, 97, 115, 115]), (.str [115, 101, 97, 114, 99, 104]), (.str [116, 111, 112])]), (.int 40)]
def prog : Prg := ⟨globs, [f0, f1, f2, f3, f4, f5, f6, f7, f8, f9, f10, f11, f12, f13, f14, f15, f16, f17, f18, f19, f20, f21, f22, f23, f24, f25, f26, f27, f28, f29, f30, f31, f32, f33, f34, f35, f36, f37, f38, f39]⟩
end K02
end
section
set_option maxRecDepth 100000
/-! MiniEv: steps of the evaluator, one by one; no kit in sight. -/
namespace Mini
section
variable {α β : Type} {G : List D} {cf : CallF} {wf : Nat} {ρ : Env} {st st' : Store} {P : Prg}
theorem b_ok {a : α} {f : α → Store → Res β} : (Res.ok a st).bind f = f a st := rfl
theorem b_ra {x : Xc} {f : α → Store → Res β} : (Res.raise x st : Res α).bind f = .raise x st := rfl
theorem t_ok {a : D} {f : D → Store → SRes} : (Res.ok a st).toS f = f a st := rfl
theorem t_ra {x : Xc} {f : D → Store → SRes} : (Res.raise x st : Res D).toS f = .raise x st := rfl
theorem l_ok {a : α} : lift (some a) st = .ok a st := rfl
theorem cm_ok {a : α} : (Res.ok a st).calm = .ok a st := rfl
def seqS (r : SRes) (k : Env → Store → SRes) : SRes := match r with
  | .nx ρ st => k ρ st
  | r => r
theorem evB_cons {s : Stm} {ss : List Stm} : evB G cf wf (s :: ss) ρ st = seqS (evS G cf wf s ρ st) (evB G cf wf ss) := by
  rw [evB]
  cases evS G cf wf s ρ st <;> rfl
theorem evB_nil : evB G cf wf [] ρ st = .nx ρ st := by rw [evB]
theorem q_nx {k : Env → Store → SRes} : seqS (.nx ρ st) k = k ρ st := rfl
theorem q_ret {d : D} {k : Env → Store → SRes} : seqS (.ret d st) k = .ret d st := rfl
theorem q_ra {x : Xc} {k : Env → Store → SRes} : seqS (.raise x st) k = .raise x st := rfl
def condS (o : Option Bool) (a b : SRes) : SRes := match o with
  | some true => a
  | some false => b
  | none => .stuck
theorem s_ite {c : Ex} {a b : List Stm} : evS G cf wf (.ite c a b) ρ st = (evE G cf c ρ st).toS fun x st1 => condS (truth x) (evB G cf wf a ρ st1) (evB G cf wf b ρ st1) := by
  rw [evS]
  rfl
theorem c_t {a b : SRes} : condS (some true) a b = a := rfl
theorem c_f {a b : SRes} : condS (some false) a b = b := rfl
theorem tr_bl {b : Bool} : truth (.bl b) = some b := rfl
theorem f_ret {d : D} : (SRes.ret d st).fin = .ok d st := rfl
theorem f_nx : (SRes.nx ρ st).fin = .ok .non st := rfl
theorem f_ra {x : Xc} : (SRes.raise x st).fin = .raise x st := rfl
theorem s_ret {e : Ex} : evS G cf wf (.ret e) ρ st = (evE G cf e ρ st).toS fun d st1 => .ret d st1 := by rw [evS]
theorem s_set {i : Nat} {o : Bool} {e : Ex} : evS G cf wf (.set i o e) ρ st = (evE G cf e ρ st).toS fun d st1 => nxO (setO ρ i o d) st1 := by rw [evS]
theorem nx_some {ρ' : Env} : nxO (some ρ') st = .nx ρ' st := rfl
theorem and_bb {p q : Bool} : (if p = true then Res.ok (D.bl q) st else Res.ok (D.bl false) st) = .ok (D.bl (p && q)) st := by cases p <;> rfl
theorem or_bb {p q : Bool} : (if p = true then Res.ok (D.bl true) st else Res.ok (D.bl q) st) = .ok (D.bl (p || q)) st := by cases p <;> rfl
theorem call_def {n f : Nat} {d : Dfn} {as : List Sl} {b : List Stm} (h : P.defs[f]? = some d) (hb : d.body = .stmts b) (hl : as.length = d.np) :
    callN P wf (n + 1) f as st = (evB P.globs (callN P wf n) wf b (as ++ List.replicate (d.ns - d.np) .non) st).fin := by
  simp [callN, h, hb, hl]
theorem call_exp {n f : Nat} {d : Dfn} {as : List Sl} {e : Ex} (h : P.defs[f]? = some d) (hb : d.body = .expr e) (hl : as.length = d.np) : callN P wf (n + 1) f as st = evE P.globs (callN P wf n) e as st := by
  simp [callN, h, hb, hl]
theorem call_try {n f : Nat} {d : Dfn} {tab : List (List Nat)} {k : Nat} {cap : List D} {x : Xc} {t : List Nat} (h : P.defs[f]? = some d) (hb : d.body = .tryP tab) (hl : d.np = 1) (e : callN P wf n k (cap.map Sl.val) st = .raise x st') (hp : x.pay = none) (ht : tab[x.cls]? = some t) :
    callN P wf (n + 1) f [.clo k cap] st = .ok (.str t) st' := by
  simp [callN, h, hb, hl, e, hp, ht]
theorem s_expr {e : Ex} : evS G cf wf (.expr e) ρ st = (evE G cf e ρ st).toS fun _ st1 => .nx ρ st1 := by rw [evS]
theorem s_raise {x : Nat} : evS G cf wf (.raise x) ρ st = .raise ⟨x, none⟩ st := by rw [evS]
theorem s_freeze {i : Nat} : evS G cf wf (.freeze i) ρ st = (match ρ[i]? with | some (.own d) => .nx (ρ.set i (.val d)) st | _ => .stuck) := by rw [evS] <;> rfl
theorem s_setT {t : Tgt} {e : Ex} : evS G cf wf (.setT t e) ρ st = (evE G cf e ρ st).toS fun d st1 => nxO (bindT t d ρ) st1 := by rw [evS]
theorem s_put {i : Nat} {k v : Ex} : evS G cf wf (.setIdx i k v) ρ st = (evE G cf v ρ st).toS fun y st1 => if putOk ρ i then (evE G cf k ρ st1).toS fun x st2 => putD ρ i x y st2 else .stuck := by rw [evS]
def parS (r : Res (List D)) (k : List D → Store → SRes) : SRes := match r with
  | .ok ds st => k ds st
  | .raise x st => .raise x st
  | .stuck => .stuck
theorem s_par {is : List Nat} {os : List Bool} {es : List Ex} : evS G cf wf (.par is os es) ρ st = parS (evEs G cf es ρ st) fun ds st1 => nxO (setOs ρ is os ds) st1 := by
  rw [evS]
  cases evEs G cf es ρ st <;> rfl
theorem p_ok {ds : List D} {k : List D → Store → SRes} : parS (.ok ds st) k = k ds st := rfl
theorem s_for {t : Tgt} {it : Itr} {b : List Stm} : evS G cf wf (.for t it b) ρ st = parS (evIt G cf it ρ st) fun xs st1 => forL t (evB G cf wf b) xs ρ st1 := by
  rw [evS]
  cases evIt G cf it ρ st <;> rfl
/-- a comprehension whose parts leave the store as it is -/
theorem lc_pure {bind : D → Option Env} {cond : Env → Store → Res Bool} {elt : Env → Store → Res D} (p : D → Bool) (f : D → D) : ∀ (xs acc : List D), (∀ x ∈ xs, ∃ ρ, bind x = some ρ ∧ cond ρ st = .ok (p x) st ∧ (p x = true → elt ρ st = .ok (f x) st)) → acc.length + xs.length ≤ line →
    lcL bind cond elt acc xs st = .ok (acc ++ (xs.filter p).map f) st
  | [], acc, _, _ => by simp [lcL]
  | x :: xs, acc, h, hl => by
    obtain ⟨ρ, e1, e2, e3⟩ := h x List.mem_cons_self
    have hs : ∀ y ∈ xs, ∃ ρ, bind y = some ρ ∧ cond ρ st = .ok (p y) st ∧ (p y = true → elt ρ st = .ok (f y) st) := fun y hy => h y (List.mem_cons_of_mem _ hy)
    have h1 : xs.length + 1 + acc.length ≤ line := by rw [List.length_cons] at hl; omega
    rw [lcL, e1]
    dsimp only
    rw [e2, b_ok]
    cases hp : p x with
    | true =>
      rw [if_pos rfl, e3 hp, b_ok, if_pos (decide_eq_true (by omega)), lc_pure p f xs _ hs (by rw [List.length_append]; simp; omega)]
      simp [hp]
    | false =>
      rw [if_neg Bool.false_ne_true, lc_pure p f xs acc hs (by omega)]
      simp [hp]
/-- .. whose elements write: I k, what holds of the store after k of them -/
theorem lc_eff {bind : D → Option Env} {elt : Env → Store → Res D} (I : Nat → Store → Prop) (Y : D → Prop) : ∀ (xs acc : List D) (k : Nat) (st : Store), (∀ x ∈ xs, ∀ k st, I k st → ∃ ρ y st', bind x = some ρ ∧ elt ρ st = .ok y st' ∧ I (k + 1) st' ∧ Y y) → acc.length + xs.length ≤ line → I k st →
    ∃ ys st', lcL bind (fun _ st => .ok true st) elt acc xs st = .ok (acc ++ ys) st' ∧ I (k + xs.length) st' ∧ (∀ y ∈ ys, Y y) ∧ ys.length = xs.length
  | [], acc, k, st, _, _, hI => ⟨[], st, by simp [lcL], by simpa using hI, by simp, rfl⟩
  | x :: xs, acc, k, st, h, hl, hI => by
    obtain ⟨ρ, y, st1, e1, e2, hI1, hy⟩ := h x List.mem_cons_self k st hI
    have h1 : xs.length + 1 + acc.length ≤ line := by rw [List.length_cons] at hl; omega
    obtain ⟨ys, st2, e3, hI2, hys, hlen⟩ := lc_eff I Y xs (acc ++ [y]) (k + 1) st1 (fun z hz => h z (List.mem_cons_of_mem _ hz)) (by rw [List.length_append]; simp; omega) hI1
    refine ⟨y :: ys, st2, ?_, by rw [List.length_cons, show k + (xs.length + 1) = k + 1 + xs.length by omega]; exact hI2, ?_, by rw [List.length_cons, List.length_cons, hlen]⟩
    · rw [lcL, e1]
      dsimp only
      rw [b_ok, if_pos rfl, e2, b_ok, if_pos (decide_eq_true (by omega)), e3]
      simp
    · intro z hz
      rcases List.mem_cons.1 hz with rfl | hz
      · exact hy
      · exact hys z hz
/-- for, by what holds after k turns -/
theorem for_inv {t : Tgt} {body : Env → Store → SRes} (I : Nat → Env → Store → Prop) : ∀ (xs : List D) (k : Nat) (ρ : Env) (st : Store), (∀ x ∈ xs, ∀ k ρ st, I k ρ st → ∃ ρ1 ρ2 st2, bindT t x ρ = some ρ1 ∧ body ρ1 st = .nx ρ2 st2 ∧ I (k + 1) ρ2 st2) → I k ρ st →
    ∃ ρ' st', forL t body xs ρ st = .nx ρ' st' ∧ I (k + xs.length) ρ' st'
  | [], k, ρ, st, _, h => ⟨ρ, st, by simp [forL], h⟩
  | x :: xs, k, ρ, st, h, hI => by
    obtain ⟨ρ1, ρ2, st2, e1, e2, hI2⟩ := h x List.mem_cons_self k ρ st hI
    obtain ⟨ρ', st', e3, hI3⟩ := for_inv I xs (k + 1) ρ2 st2 (fun z hz => h z (List.mem_cons_of_mem _ hz)) hI2
    refine ⟨ρ', st', ?_, by rw [List.length_cons, show k + (xs.length + 1) = k + 1 + xs.length by omega]; exact hI3⟩
    rw [forL, e1]
    dsimp only
    rw [e2]
    exact e3
/-- data that the laws hand about: nested at most k deep, nothing longer than L -/
inductive Gd (L : Nat) : Nat → D → Prop
  | non {k : Nat} : Gd L k .non
  | bl {k : Nat} (b : Bool) : Gd L k (.bl b)
  | int {k : Nat} (i : Int) : Gd L k (.int i)
  | str {k : Nat} {s : List Nat} : s.length ≤ L → Gd L k (.str s)
  | tup {k : Nat} {xs : List D} : xs.length ≤ L → (∀ x ∈ xs, Gd L k x) → Gd L (k + 1) (.tup xs)
  | lst {k : Nat} {xs : List D} : xs.length ≤ L → (∀ x ∈ xs, Gd L k x) → Gd L (k + 1) (.lst xs)
theorem Gd.mono {L L' : Nat} (hL : L ≤ L') : ∀ {k k' : Nat} {x : D}, Gd L k x → k ≤ k' → Gd L' k' x
  | _, _, _, .non, _ => .non
  | _, _, _, .bl b, _ => .bl b
  | _, _, _, .int i, _ => .int i
  | _, _, _, .str h, _ => .str (Nat.le_trans h hL)
  | _, k' + 1, _, .tup h hs, hk => .tup (Nat.le_trans h hL) fun x hx => (hs x hx).mono hL (by omega)
  | _, k' + 1, _, .lst h hs, hk => .lst (Nat.le_trans h hL) fun x hx => (hs x hx).mono hL (by omega)
  | _, 0, _, .tup h hs, hk => by omega
  | _, 0, _, .lst h hs, hk => by omega
theorem Gd.item {L k : Nat} {xs : List D} (h : Gd L k (.tup xs)) {x : D} (hx : x ∈ xs) : Gd L k x := by
  cases h with
  | tup h hs => exact (hs x hx).mono (Nat.le_refl _) (Nat.le_succ _)
theorem Gd.len {L k : Nat} {xs : List D} (h : Gd L k (.tup xs)) : xs.length ≤ L := by
  cases h with
  | tup h hs => exact h
/-- a comprehension without tests, its parts leave the store as it is -/
theorem lc_map {bind : D → Option Env} {elt : Env → Store → Res D} (f : D → D) (xs : List D) (h : ∀ x ∈ xs, ∃ ρ, bind x = some ρ ∧ elt ρ st = .ok (f x) st) (hl : xs.length ≤ line) : lcL bind (fun _ st => .ok true st) elt [] xs st = .ok (xs.map f) st := by
  rw [lc_pure (fun _ => true) f xs [] (fun x hx => let ⟨ρ, a, b⟩ := h x hx; ⟨ρ, a, rfl, fun _ => b⟩) (by simpa using hl), List.filter_eq_self.mpr fun _ _ => rfl, List.nil_append]
/-- [elt for name i in xs] -/
theorem e_map {i : Nat} {e it : Ex} (f : D → D) {v : D} {xs : List D} (hit : evE G cf it ρ st = .ok v st) (hv : items v = some xs) (h : ∀ x ∈ xs, evE G cf e ((ρ.set i .non).set i (.val x)) st = .ok (f x) st) (hi : i < ρ.length) (hl : xs.length ≤ line) :
    evE G cf (.lc e (.name i) (.e it) none) ρ st = .ok (.lst (xs.map f)) st := by
  have key : lcL (fun x => bindT (.name i) x (wipeE ρ (slotsT (.name i)))) (fun ρ' st' => (evT G cf none ρ' st').calm) (fun ρ' st' => (evE G cf e ρ' st').calm) [] xs st = .ok (xs.map f) st := by
    have e1 : (fun (ρ' : Env) (st' : Store) => (evT G cf none ρ' st').calm) = fun _ st => .ok true st := by funext ρ' st'; rw [evT]; rfl
    rw [e1]
    refine lc_map f xs (fun x hx => ⟨(ρ.set i .non).set i (.val x), ?_, ?_⟩) hl
    · simp [bindT, slotsT, wipeE, hi]
    · rw [h x hx]; rfl
  rw [evE, evIt, hit, b_ok, hv, l_ok, b_ok, key, b_ok]
/-- [1 for name i in xs if bad] -/
theorem e_ones {i : Nat} {c it : Ex} (p : D → Bool) {v : D} {xs : List D} (hit : evE G cf it ρ st = .ok v st) (hv : items v = some xs) (h : ∀ x ∈ xs, evE G cf c ((ρ.set i .non).set i (.val x)) st = .ok (.bl (p x)) st) (hi : i < ρ.length) (hl : xs.length ≤ line) :
    evE G cf (.lc (.con (.int 1)) (.name i) (.e it) (some c)) ρ st = .ok (.lst ((xs.filter p).map fun _ => .int 1)) st := by
  have key : lcL (fun x => bindT (.name i) x (wipeE ρ (slotsT (.name i)))) (fun ρ' st' => (evT G cf (some c) ρ' st').calm) (fun ρ' st' => (evE G cf (.con (.int 1)) ρ' st').calm) [] xs st = .ok ([] ++ (xs.filter p).map fun _ => .int 1) st := by
    refine lc_pure p (fun _ => .int 1) xs [] (fun x hx => ⟨(ρ.set i .non).set i (.val x), ?_, ?_, fun _ => ?_⟩) (by simpa using hl)
    · simp [bindT, slotsT, wipeE, hi]
    · rw [evT, h x hx]; rfl
    · rw [evE]; rfl
  rw [evE, evIt, hit, b_ok, hv, l_ok, b_ok, key, b_ok, List.nil_append]
/-- texts alone -/
theorem okDs_strs : ∀ (ws : List (List Nat)) (n : Nat), okDs (ws.map D.str) n = true
  | [], _ => rfl
  | w :: ws, n => by simp [okDs, okD, okDs_strs ws n]
/-- the text v is among the words -/
def among (ws : List (List Nat)) : D → Bool
  | .str s => ws.contains s
  | _ => false
theorem any_words (ws : List (List Nat)) (s : List Nat) : ((ws.map D.str).any fun y => eqv y (.str s)) = ws.contains s := by
  induction ws with
  | nil => rfl
  | cons w ws ih =>
    rw [List.map_cons, List.any_cons, ih, List.contains_cons]
    simp [eqv, Bool.beq_comm]
theorem in_lst (ws : List (List Nat)) (s : List Nat) : inD (.str s) (.lst (ws.map D.str)) = some (ws.contains s) := by
  simp only [inD, inL, okD, okDs_strs, Bool.and_self, if_true, any_words]
theorem in_tup (ws : List (List Nat)) (s : List Nat) : inD (.str s) (.tup (ws.map D.str)) = some (ws.contains s) := by
  simp only [inD, inL, okD, okDs_strs, Bool.and_self, if_true, any_words]
theorem bools_map {α : Type} (f : α → Bool) : ∀ xs : List α, bools (xs.map fun x => D.bl (f x)) = some (xs.map f)
  | [] => rfl
  | x :: xs => by simp [bools, bools_map f xs]
theorem okDs_ones : ∀ (n k : Nat), okDs (List.replicate n (D.int 1)) k = true
  | 0, _ => rfl
  | n + 1, k => by simp [List.replicate, okDs, okD, okDs_ones n k]
/-- [1 for x in xs if bad] == [] -/
theorem ones_eq {xs : List D} (p : D → Bool) : eqD (.lst ((xs.filter p).map fun _ => D.int 1)) (.lst []) = some (xs.all fun x => !p x) := by
  have e : ((xs.filter p).map fun _ => D.int 1) = List.replicate (xs.filter p).length (.int 1) := List.map_const'
  rw [e]
  have h1 : okD (.lst (List.replicate (xs.filter p).length (.int 1))) 64 = true := by simp [okD, okDs_ones]
  have h2 : okD (.lst []) 64 = true := rfl
  unfold eqD
  rw [h1, h2, Bool.and_self, if_pos rfl]
  congr 1
  cases hf : xs.filter p with
  | nil =>
    simp [eqv, eqvs]
    intro x hx
    have := List.filter_eq_nil_iff.mp hf x hx
    simpa using this
  | cons a as =>
    have ha : a ∈ xs.filter p := by rw [hf]; exact List.mem_cons_self
    have hb := List.mem_filter.mp ha
    rw [List.length_cons, List.replicate_succ]
    have : (xs.all fun x => !p x) = false := by
      rw [List.all_eq_false]
      exact ⟨a, hb.1, by simp [hb.2]⟩
    rw [this]
    rfl
theorem v_con {d : D} : evE G cf (.con d) ρ st = (.ok d st) := by rw [evE]
theorem v_var {i : Nat} : evE G cf (.var i) ρ st = (lift (varD ρ i) st) := by rw [evE]
theorem v_peek {i : Nat} : evE G cf (.peek i) ρ st = (lift (peekD ρ i) st) := by rw [evE]
theorem v_glob {n : Nat} : evE G cf (.glob n) ρ st = (lift (G[n]?) st) := by rw [evE]
theorem v_tup {es : List Ex} : evE G cf (.tup es) ρ st = ((evEs G cf es ρ st).bind fun ds st1 => lift (mkTup ds) st1) := by rw [evE]
theorem v_lst {es : List Ex} : evE G cf (.lst es) ρ st = ((evEs G cf es ρ st).bind fun ds st1 => lift (mkLst ds) st1) := by rw [evE]
theorem v_cellL {es : List Ex} : evE G cf (.cellL es) ρ st = ((evEs G cf es ρ st).bind fun ds st1 => if cellOk ds then .ok (.cell st1.length) (st1 ++ [ds]) else .stuck) := by rw [evE]
theorem v_bin {o : BOp} {a : Ex} {b : Ex} : evE G cf (.bin o a b) ρ st = ((evE G cf a ρ st).bind fun x st1 => (evE G cf b ρ st1).bind fun y st2 => lift (binD o x y) st2) := by rw [evE]
theorem v_cmp {o : COp} {a : Ex} {b : Ex} : evE G cf (.cmp o a b) ρ st = ((evE G cf a ρ st).bind fun x st1 => (evE G cf b ρ st1).bind fun y st2 => lift ((cmpD o x y).map .bl) st2) := by rw [evE]
theorem v_chain {o : COp} {p : COp} {a : Ex} {b : Ex} {c : Ex} : evE G cf (.chain o p a b c) ρ st = ((evE G cf a ρ st).bind fun x st1 => (evE G cf b ρ st1).bind fun y st2 => (lift (cmpD o x y) st2).bind fun k st3 => if k then (evE G cf c ρ st3).bind fun z st4 => lift ((cmpD p y z).map .bl) st4 else .ok (.bl false) st3) := by rw [evE]
theorem v_and {a : Ex} {b : Ex} : evE G cf (.and a b) ρ st = ((evE G cf a ρ st).bind fun x st1 => (lift (truth x) st1).bind fun k st2 => if k then evE G cf b ρ st2 else .ok (.bl false) st2) := by rw [evE]
theorem v_or {a : Ex} {b : Ex} : evE G cf (.or a b) ρ st = ((evE G cf a ρ st).bind fun x st1 => (lift (truth x) st1).bind fun k st2 => if k then .ok (.bl true) st2 else evE G cf b ρ st2) := by rw [evE]
theorem v_not {a : Ex} : evE G cf (.not a) ρ st = ((evE G cf a ρ st).bind fun x st1 => lift ((truth x).map fun b => .bl (!b)) st1) := by rw [evE]
theorem v_ite {c : Ex} {a : Ex} {b : Ex} : evE G cf (.ite c a b) ρ st = ((evE G cf c ρ st).bind fun x st1 => (lift (truth x) st1).bind fun k st2 => if k then evE G cf a ρ st2 else evE G cf b ρ st2) := by rw [evE]
theorem v_idx {a : Ex} {i : Ex} : evE G cf (.idx a i) ρ st = ((evE G cf a ρ st).bind fun x st1 => (evE G cf i ρ st1).bind fun y st2 => lift (idxD st2 x y) st2) := by rw [evE]
theorem v_slice {a : Ex} {lo : Option Ex} {hi : Option Ex} : evE G cf (.slice a lo hi) ρ st = ((evE G cf a ρ st).bind fun x st1 => (evI G cf lo ρ st1).bind fun l st2 => (evI G cf hi ρ st2).bind fun h st3 => lift (sliceD x l h) st3) := by rw [evE]
theorem v_rev {a : Ex} : evE G cf (.rev a) ρ st = ((evE G cf a ρ st).bind fun x st1 => lift (revD x) st1) := by rw [evE]
theorem v_call {f : Nat} {as : List Ar} : evE G cf (.call f as) ρ st = ((evAs G cf as ρ st).bind fun ss st1 => cf f ss st1) := by rw [evE]
theorem v_prim {p : Prim} {a : Ex} : evE G cf (.prim p a) ρ st = ((evE G cf a ρ st).bind fun x st1 => lift (primD p x) st1) := by rw [evE]
theorem v_meth {m : Meth} {o : Ex} {as : List Ex} : evE G cf (.meth m o as) ρ st = ((evE G cf o ρ st).bind fun x st1 => (evEs G cf as ρ st1).bind fun ys st2 => lift (methD m x ys) st2) := by rw [evE]
theorem v_neg {a : Ex} : evE G cf (.neg a) ρ st = ((evE G cf a ρ st).bind fun x st1 => match x with | .int i => .ok (.int (-i)) st1 | _ => .stuck) := by rw [evE] <;> rfl
end
end Mini
end
section
set_option maxRecDepth 100000
/-! RdA: readers, piles, deeds, trees, as plain things; what stands for them. A pile is told from its top on. -/
namespace Rdr
open Mini
inductive K where
  | nest | void | raw | self | mode
  deriving DecidableEq
inductive Hb where
  | pass | search | top
  deriving DecidableEq
structure R where
  ks : List K
  h : Hb
  d : Nat
/-- a sign -/
inductive Sg where
  | dot
  | s (x : Nat) (p : Bool)
  deriving DecidableEq
/-- a mark -/
inductive Mk where
  | dot
  | m (a : Bool) (x : Nat) (p : Bool)
  deriving DecidableEq
/-- a deed -/
inductive Dd where
  | op (x : Nat)
  | cl (x : Nat)
  | vd (x : Nat)
  | sg (s : Sg)
  deriving DecidableEq
inductive Nd where
  | sg (s : Sg)
  | pt (x : Nat) (t : List Nd)
  deriving Inhabited
abbrev Pile := List Nat
def R.kind (r : R) (x : Nat) : K := r.ks.getD x .nest
def R.raw (r : R) : Pile → Bool
  | [] => false
  | x :: q => decide (r.kind x = .raw) && !(q.any fun y => decide (r.kind y = .mode))
def sgn : Mk → Sg
  | .dot => .dot
  | .m _ x p => .s x p
def opened (r : R) (p : Pile) (x : Nat) : Pile × List Dd :=
  if r.kind x = .void then (p, [.vd x])
  else
    let q : Pile × List Dd := if r.kind x = .self ∧ p.head? = some x then (p.tail, [.cl x]) else (p, [])
    if r.d ≤ q.1.length then q else (x :: q.1, q.2 ++ [.op x])
def many (r : R) (p : Pile) (x : Nat) : Nat :=
  if r.kind x = .void ∨ p = [] then 0
  else if p.head? = some x ∨ r.h = .top then 1
  else if r.h = .search ∧ x ∈ p then p.idxOf x + 1
  else 0
def closed (r : R) (p : Pile) (x : Nat) : Pile × List Dd := (p.drop (many r p x), (p.take (many r p x)).map .cl)
def step (r : R) (p : Pile) (m : Mk) : Pile × List Dd :=
  if r.raw p then (match p with
    | [] => (p, [])
    | x :: q => if m = .m false x false then (q, [.cl x]) else (p, [.sg (sgn m)]))
  else match m with
    | .dot => (p, [.sg .dot])
    | .m true x b => (p, [.sg (.s x b)])
    | .m false x true => opened r p x
    | .m false x false => closed r p x
def ends (p : Pile) : List Dd := p.map .cl
/-- the pile, the deeds behind some marks -/
def run (r : R) : Pile → List Mk → Pile × List Dd
  | p, [] => (p, [])
  | p, m :: ms => ((run r (step r p m).1 ms).1, (step r p m).2 ++ (run r (step r p m).1 ms).2)
def deeds (r : R) (ms : List Mk) : List Dd := (run r [] ms).2 ++ ends (run r [] ms).1
/-- the rows, from the top on, behind a deed -/
def tapp : List (List Nd) → Dd → List (List Nd)
  | rows, .op _ => [] :: rows
  | a :: b :: r, .cl x => (b ++ [.pt x a]) :: r
  | a :: r, .vd x => (a ++ [.pt x []]) :: r
  | a :: r, .sg s => (a ++ [.sg s]) :: r
  | rows, _ => rows
def tapps (rows : List (List Nd)) (ds : List Dd) : List (List Nd) := ds.foldl tapp rows
def tree (ds : List Dd) : List Nd := ((tapps [[]] ds).getLast?).getD []
def read (r : R) (ms : List Mk) : List Nd := tree (deeds r ms)

/-! ### what stands for them -/
def eKs : K → List Nat
  | .nest => [110, 101, 115, 116]
  | .void => [118, 111, 105, 100]
  | .raw => [114, 97, 119]
  | .self => [115, 101, 108, 102]
  | .mode => [109, 111, 100, 101]
def eHs : Hb → List Nat
  | .pass => [112, 97, 115, 115]
  | .search => [115, 101, 97, 114, 99, 104]
  | .top => [116, 111, 112]
def eK (k : K) : D := .str (eKs k)
def eH (k : Hb) : D := .str (eHs k)
def eR (r : R) : D := .tup [.tup (r.ks.map eK), eH r.h, .int r.d]
def eN (x : Nat) : D := .str [97 + x]
def pm (b : Bool) : Nat := if b then 43 else 45
def eSs : Sg → List Nat
  | .dot => [46]
  | .s x p => [97 + x, pm p]
def eS (s : Sg) : D := .str (eSs s)
def eMs : Mk → List Nat
  | .dot => [46]
  | .m true x p => [38, 97 + x, pm p]
  | .m false x p => [97 + x, pm p]
def eM (m : Mk) : D := .str (eMs m)
def eP (p : Pile) : D := .tup (p.reverse.map eN)
def sOpen : List Nat := [111, 112, 101, 110]
def sClose : List Nat := [99, 108, 111, 115, 101]
def sVoid : List Nat := [118, 111, 105, 100]
def sSign : List Nat := [115, 105, 103, 110]
def eDd : Dd → D
  | .op x => .tup [.str [111, 112, 101, 110], eN x]
  | .cl x => .tup [.str [99, 108, 111, 115, 101], eN x]
  | .vd x => .tup [.str [118, 111, 105, 100], eN x]
  | .sg s => .tup [.str [115, 105, 103, 110], eS s]
mutual
def eNd : Nd → D
  | .sg s => eS s
  | .pt x t => .tup [eN x, .tup (eNds t)]
def eNds : List Nd → List D
  | [] => []
  | a :: r => eNd a :: eNds r
end
theorem eNds_map : ∀ t : List Nd, eNds t = t.map eNd
  | [] => by rw [eNds]; rfl
  | a :: r => by rw [eNds, eNds_map r]; rfl
theorem eNd_pt {x : Nat} {t : List Nd} : eNd (.pt x t) = .tup [eN x, .tup (t.map eNd)] := by rw [eNd, eNds_map]
theorem eNd_sg {s : Sg} : eNd (.sg s) = eS s := by rw [eNd]
def eT (t : List Nd) : D := .tup (t.map eNd)

/-! ### what is allowed -/
structure R.Ok (r : R) : Prop where
  n1 : 1 ≤ r.ks.length
  n3 : r.ks.length ≤ 3
  d1 : 1 ≤ r.d
  d3 : r.d ≤ 3
def POk (n : Nat) (p : Pile) : Prop := ∀ x ∈ p, x < n
def MOk (n : Nat) : Mk → Prop
  | .dot => True
  | .m _ x _ => x < n
theorem many_le (r : R) (p : Pile) (x : Nat) : many r p x ≤ p.length := by
  unfold many
  split
  · omega
  · rename_i h
    have : p.length ≠ 0 := fun z => h (.inr (List.length_eq_zero_iff.mp z))
    split
    · omega
    · split
      · rename_i h3
        have := List.idxOf_lt_length_iff.mpr h3.2
        omega
      · omega
theorem step_ok {r : R} {p : Pile} {m : Mk} (hp : POk r.ks.length p) (hm : MOk r.ks.length m) : POk r.ks.length (step r p m).1 := by
  have hd : ∀ n, POk r.ks.length (p.drop n) := fun n x hx => hp x (List.mem_of_mem_drop hx)
  unfold step
  split
  · cases p with
    | nil => exact hp
    | cons x q =>
      dsimp only
      split
      · exact fun y hy => hp y (List.mem_cons_of_mem _ hy)
      · exact hp
  · rcases m with _ | ⟨_ | _, x, _ | _⟩
    · exact hp
    · exact hd _
    · show POk _ (opened r p x).1
      unfold opened
      split
      · exact hp
      · by_cases q : r.kind x = .self ∧ p.head? = some x
        · rw [if_pos q]
          dsimp only
          split
          · exact fun y hy => hp y (List.mem_of_mem_tail hy)
          · intro y hy
            rcases List.mem_cons.mp hy with rfl | hy
            · exact hm
            · exact hp y (List.mem_of_mem_tail hy)
        · rw [if_neg q]
          dsimp only
          split
          · exact hp
          · intro y hy
            rcases List.mem_cons.mp hy with rfl | hy
            · exact hm
            · exact hp y hy
    · exact hp
    · exact hp
theorem step_len {r : R} {p : Pile} {m : Mk} (hp : p.length ≤ r.d) : (step r p m).1.length ≤ r.d ∧ (step r p m).2.length ≤ r.d + 2 := by
  unfold step
  split
  · cases p with
    | nil => exact ⟨hp, by simp⟩
    | cons x q =>
      dsimp only
      split
      · exact ⟨by simp at hp ⊢; omega, by simp⟩
      · exact ⟨hp, by simp⟩
  · rcases m with _ | ⟨_ | _, x, _ | _⟩
    · exact ⟨hp, by simp⟩
    · exact ⟨by simp [closed]; omega, by simp [closed]; omega⟩
    · show (opened r p x).1.length ≤ r.d ∧ (opened r p x).2.length ≤ r.d + 2
      unfold opened
      split
      · exact ⟨hp, by simp⟩
      · by_cases q : r.kind x = .self ∧ p.head? = some x
        · rw [if_pos q]
          dsimp only
          split
          · exact ⟨by simp; omega, by simp⟩
          · exact ⟨by simp at *; omega, by simp⟩
        · rw [if_neg q]
          dsimp only
          split
          · exact ⟨hp, by simp⟩
          · exact ⟨by simp at *; omega, by simp⟩
    · exact ⟨hp, by simp⟩
    · exact ⟨hp, by simp⟩
theorem run_len {r : R} : ∀ {ms : List Mk} {p : Pile}, p.length ≤ r.d → (run r p ms).1.length ≤ r.d ∧ (run r p ms).2.length ≤ (r.d + 2) * ms.length
  | [], p, h => ⟨h, by simp [run]⟩
  | m :: ms, p, h => by
    have ⟨h1, h2⟩ := step_len (m := m) h
    have ⟨h3, h4⟩ := run_len (ms := ms) h1
    refine ⟨h3, ?_⟩
    show ((step r p m).2 ++ (run r (step r p m).1 ms).2).length ≤ _
    rw [List.length_append, List.length_cons, Nat.mul_add]
    omega
theorem run_ok {r : R} : ∀ {ms : List Mk} {p : Pile}, POk r.ks.length p → (∀ m ∈ ms, MOk r.ks.length m) → POk r.ks.length (run r p ms).1
  | [], p, h, _ => h
  | m :: ms, p, h, hm => run_ok (ms := ms) (step_ok h (hm m List.mem_cons_self)) fun x hx => hm x (List.mem_cons_of_mem _ hx)
theorem run_app {r : R} : ∀ {ms ns : List Mk} {p : Pile}, run r p (ms ++ ns) = ((run r (run r p ms).1 ns).1, (run r p ms).2 ++ (run r (run r p ms).1 ns).2)
  | [], ns, p => rfl
  | m :: ms, ns, p => by
    show (_, _) = _
    rw [show ((ms.append ns) = ms ++ ns) from rfl, run_app (ms := ms)]
    simp [run, List.append_assoc]
/-- the piles behind each mark -/
def pilesOf (r : R) : Pile → List Mk → List Pile
  | _, [] => []
  | p, m :: ms => (step r p m).1 :: pilesOf r (step r p m).1 ms
theorem pilesOf_eq (r : R) : ∀ (ms : List Mk) (p : Pile), pilesOf r p ms = (List.range ms.length).map fun i => (run r p (ms.take (i + 1))).1
  | [], p => rfl
  | m :: ms, p => by
    rw [pilesOf, pilesOf_eq r ms, List.length_cons, List.range_succ_eq_map, List.map_cons, List.map_map]
    rfl
theorem pilesOf_len (r : R) : ∀ (ms : List Mk) (p : Pile), (pilesOf r p ms).length = ms.length
  | [], p => rfl
  | m :: ms, p => by rw [pilesOf, List.length_cons, pilesOf_len r ms, List.length_cons]
/-! ### deeds that a pile allows -/
/-- the pile behind a deed -/
def papp : Pile → Dd → Pile
  | p, .op x => x :: p
  | p, .cl _ => p.tail
  | p, _ => p
/-- the top part alone is closed -/
def Fit : Pile → List Dd → Prop
  | _, [] => True
  | p, .cl x :: ds => p.head? = some x ∧ Fit p.tail ds
  | p, d :: ds => Fit (papp p d) ds
theorem fit_app : ∀ {ds es : List Dd} {p : Pile}, Fit p (ds ++ es) ↔ Fit p ds ∧ Fit (ds.foldl papp p) es
  | [], es, p => by simp [Fit]
  | d :: ds, es, p => by
    cases d <;> simp only [List.cons_append, Fit, List.foldl_cons, papp, fit_app (ds := ds), and_assoc]
theorem fit_take : ∀ (n : Nat) (p : Pile), Fit p ((p.take n).map .cl) ∧ ((p.take n).map Dd.cl).foldl papp p = p.drop n
  | 0, p => by simp [Fit]
  | n + 1, [] => by simp [Fit]
  | n + 1, x :: p => by
    have ⟨h1, h2⟩ := fit_take n p
    simp only [List.take_succ_cons, List.map_cons, Fit, List.head?_cons, List.tail_cons, h1, and_self, List.foldl_cons, papp, h2, List.drop_succ_cons]
theorem step_fit (r : R) (p : Pile) (m : Mk) : Fit p (step r p m).2 ∧ (step r p m).2.foldl papp p = (step r p m).1 := by
  unfold step
  split
  · cases p with
    | nil => simp [Fit]
    | cons x q =>
      dsimp only
      split <;> simp [Fit, papp]
  · rcases m with _ | ⟨_ | _, x, _ | _⟩
    · simp [Fit, papp]
    · exact fit_take _ _
    · show Fit p (opened r p x).2 ∧ (opened r p x).2.foldl papp p = (opened r p x).1
      unfold opened
      split
      · simp [Fit, papp]
      · by_cases q : r.kind x = .self ∧ p.head? = some x
        · rw [if_pos q]
          dsimp only
          split <;> simp [Fit, papp, q.2]
        · rw [if_neg q]
          dsimp only
          split <;> simp [Fit, papp]
    · simp [Fit, papp]
    · simp [Fit, papp]
theorem run_fit (r : R) : ∀ (ms : List Mk) (p : Pile), Fit p (run r p ms).2 ∧ (run r p ms).2.foldl papp p = (run r p ms).1
  | [], p => by simp [run, Fit]
  | m :: ms, p => by
    have ⟨h1, h2⟩ := step_fit r p m
    have ⟨h3, h4⟩ := run_fit r ms (step r p m).1
    show Fit p ((step r p m).2 ++ (run r (step r p m).1 ms).2) ∧ ((step r p m).2 ++ (run r (step r p m).1 ms).2).foldl papp p = _
    rw [fit_app, List.foldl_append, h2]
    exact ⟨⟨h1, h3⟩, h4⟩
theorem ends_fit (p : Pile) : Fit p (ends p) ∧ (ends p).foldl papp p = [] := by
  have := fit_take p.length p
  simpa [ends] using this
/-! ### the law's rows: (open parts with their nodes, from the top on; the text's own nodes) -/
abbrev Lr := List (Nat × List Nd) × List Nd
def lshut : Lr → Lr
  | ((x, a) :: (y, b) :: s, t) => ((y, b ++ [.pt x a]) :: s, t)
  | ([(x, a)], t) => ([], t ++ [.pt x a])
  | l => l
def lput : Lr → Nd → Lr
  | ((x, a) :: s, t), n => ((x, a ++ [n]) :: s, t)
  | ([], t), n => ([], t ++ [n])
def lapp (l : Lr) : Dd → Lr
  | .op x => ((x, []) :: l.1, l.2)
  | .cl _ => lshut l
  | .vd x => lput l (.pt x [])
  | .sg s => lput l (.sg s)
def lapps (l : Lr) (ds : List Dd) : Lr := ds.foldl lapp l
def names (l : Lr) : Pile := l.1.map (·.1)
def rowsOf (l : Lr) : List (List Nd) := l.1.map (·.2) ++ [l.2]
theorem lapp_rows {l : Lr} {d : Dd} (h : Fit (names l) [d]) : rowsOf (lapp l d) = tapp (rowsOf l) d ∧ names (lapp l d) = papp (names l) d := by
  rcases l with ⟨_ | ⟨⟨x, a⟩, _ | ⟨⟨y, b⟩, s⟩⟩, t⟩ <;> cases d <;> simp [rowsOf, names, lapp, lshut, lput, tapp, papp, Fit] at h ⊢ <;> exact h
theorem lapps_rows : ∀ {ds : List Dd} {l : Lr}, Fit (names l) ds → rowsOf (lapps l ds) = tapps (rowsOf l) ds ∧ names (lapps l ds) = ds.foldl papp (names l)
  | [], l, _ => ⟨rfl, rfl⟩
  | d :: ds, l, h => by
    have h' : Fit (names l) ([d] ++ ds) := h
    rw [fit_app] at h'
    have ⟨e1, e2⟩ := lapp_rows h'.1
    have h2 : Fit (names (lapp l d)) ds := by rw [e2]; exact h'.2
    have ⟨e3, e4⟩ := lapps_rows h2
    exact ⟨by rw [show lapps l (d :: ds) = lapps (lapp l d) ds from rfl, e3, e1]; rfl, by rw [show lapps l (d :: ds) = lapps (lapp l d) ds from rfl, e4, e2]; rfl⟩
/-- the law's rows behind some marks -/
def lrun (r : R) (ms : List Mk) : Lr := lapps ([], []) (run r [] ms).2
theorem lrun_names (r : R) (ms : List Mk) : names (lrun r ms) = (run r [] ms).1 := by
  have ⟨h1, h2⟩ := run_fit r ms []
  rw [lrun, (lapps_rows (l := ([], [])) h1).2]
  exact h2
theorem read_lrun (r : R) (ms : List Mk) : (lapps (lrun r ms) (ends (run r [] ms).1)).2 = read r ms := by
  have ⟨h1, h2⟩ := run_fit r ms []
  have ⟨h3, h4⟩ := ends_fit (run r [] ms).1
  have hf : Fit (names ([], [])) ((run r [] ms).2 ++ ends (run r [] ms).1) := by
    rw [fit_app]
    exact ⟨h1, by rw [show names ([], []) = [] from rfl, h2]; exact h3⟩
  have e := lapps_rows (l := ([], [])) hf
  have e2 : lapps ([], []) ((run r [] ms).2 ++ ends (run r [] ms).1) = lapps (lrun r ms) (ends (run r [] ms).1) := by simp [lapps, lrun, List.foldl_append]
  rw [e2] at e
  have hn : names (lapps (lrun r ms) (ends (run r [] ms).1)) = [] := by
    rw [e.2, List.foldl_append, show names ([], []) = [] from rfl, h2, h4]
  rw [read, tree, deeds, show ([[]] : List (List Nd)) = rowsOf ([], []) from rfl, ← e.1]
  generalize lapps (lrun r ms) (ends (run r [] ms).1) = l at hn
  obtain ⟨s, t⟩ := l
  have : s = [] := by
    cases s with
    | nil => rfl
    | cons a s => simp [names] at hn
  subst this
  simp [rowsOf]
/-! ### how deep and wide trees are -/
/-- at most k parts within one another, rows of at most L nodes -/
inductive NdOk (L : Nat) : Nat → Nd → Prop
  | sg {k : Nat} (s : Sg) : NdOk L k (.sg s)
  | pt {k : Nat} (x : Nat) {t : List Nd} : t.length ≤ L → (∀ n ∈ t, NdOk L k n) → NdOk L (k + 1) (.pt x t)
theorem NdOk.up {L : Nat} : ∀ {k : Nat} {n : Nd}, NdOk L k n → NdOk L (k + 1) n
  | _, _, .sg s => .sg s
  | _, _, .pt x h hs => .pt x h fun n hn => (hs n hn).up
theorem NdOk.mono {L k k' : Nat} {n : Nd} (h : NdOk L k n) (le : k ≤ k') : NdOk L k' n := by
  induction le with
  | refl => exact h
  | step _ ih => exact ih.up
theorem NdOk.wide {L M : Nat} (le : L ≤ M) : ∀ {k : Nat} {n : Nd}, NdOk L k n → NdOk M k n
  | _, _, .sg s => .sg s
  | _, _, .pt x h hs => .pt x (Nat.le_trans h le) fun n hn => (hs n hn).wide le
/-- rows from the top on, c of them allowed with void parts in the top one -/
def RowsOk (L c : Nat) : List (List Nd) → Prop
  | [] => True
  | a :: r => (∃ k, k + r.length = c ∧ ∀ n ∈ a, NdOk L k n) ∧ RowsOk L c r
theorem tapp_ok {L c : Nat} {rows : List (List Nd)} {d : Dd} {p : Pile} (hf : Fit p [d]) (hl : rows.length = p.length + 1) (hc : (papp p d).length < c) (hw : ∀ a ∈ rows, a.length ≤ L) (h : RowsOk L c rows) : RowsOk L c (tapp rows d) := by
  obtain ⟨a, r, rfl⟩ : ∃ a r, rows = a :: r := by
    rcases rows with _ | ⟨a, r⟩ <;> simp at hl
    exact ⟨a, r, rfl⟩
  obtain ⟨⟨k, hk, ha⟩, hr⟩ := h
  cases d with
  | op x =>
    refine ⟨⟨c - (a :: r).length, ?_, by simp⟩, ⟨k, hk, ha⟩, hr⟩
    simp only [papp, List.length_cons] at hc hl ⊢
    omega
  | cl x =>
    obtain ⟨y, q, rfl⟩ : ∃ y q, p = y :: q := by
      cases p with
      | nil => simp [Fit] at hf
      | cons y q => exact ⟨y, q, rfl⟩
    obtain ⟨b, s, rfl⟩ : ∃ b s, r = b :: s := by
      rcases r with _ | ⟨b, s⟩ <;> simp at hl
      exact ⟨b, s, rfl⟩
    obtain ⟨⟨j, hj, hb⟩, hs⟩ := hr
    refine ⟨⟨j, hj, fun n hn => ?_⟩, hs⟩
    rcases List.mem_append.mp hn with hn | hn
    · exact hb n hn
    · rw [List.mem_singleton.mp hn]
      have : j = k + 1 := by simp at hk; omega
      subst this
      exact .pt x (hw a (by simp)) ha
  | vd x =>
    refine ⟨⟨k, hk, fun n hn => ?_⟩, hr⟩
    rcases List.mem_append.mp hn with hn | hn
    · exact ha n hn
    · rw [List.mem_singleton.mp hn]
      obtain ⟨j, rfl⟩ : ∃ j, k = j + 1 := ⟨k - 1, by simp only [papp] at hc; simp at hl; omega⟩
      exact .pt x (by simp) (by simp)
  | sg s =>
    refine ⟨⟨k, hk, fun n hn => ?_⟩, hr⟩
    rcases List.mem_append.mp hn with hn | hn
    · exact ha n hn
    · rw [List.mem_singleton.mp hn]
      exact .sg s
theorem tapp_wide {L : Nat} {rows : List (List Nd)} {d : Dd} (hw : ∀ a ∈ rows, a.length ≤ L) : ∀ a ∈ tapp rows d, a.length ≤ L + 1 := by
  rcases rows with _ | ⟨a, _ | ⟨b, r⟩⟩
  · cases d <;> simp [tapp]
  · have := hw a (by simp)
    cases d <;> simp [tapp] <;> omega
  · have h1 := hw a (by simp)
    have h2 := hw b (by simp)
    have h3 : ∀ c ∈ r, c.length ≤ L + 1 := fun c hc => by have := hw c (by simp [hc]); omega
    cases d <;> simp [tapp] <;> refine ⟨by omega, ?_⟩ <;> first | exact h3 | exact ⟨by omega, h3⟩ | exact ⟨by omega, by omega, h3⟩
/-- the piles along some deeds stay below c -/
def Low (c : Nat) : Pile → List Dd → Prop
  | _, [] => True
  | p, d :: ds => (papp p d).length < c ∧ Low c (papp p d) ds
theorem low_app {c : Nat} : ∀ {ds es : List Dd} {p : Pile}, Low c p (ds ++ es) ↔ Low c p ds ∧ Low c (ds.foldl papp p) es
  | [], es, p => by simp [Low]
  | d :: ds, es, p => by simp only [List.cons_append, Low, List.foldl_cons, low_app (ds := ds), and_assoc]
theorem low_take {c : Nat} : ∀ (n : Nat) (p : Pile), p.length ≤ c → Low c p ((p.take n).map .cl)
  | 0, p, _ => by simp [Low]
  | n + 1, [], _ => by simp [Low]
  | n + 1, x :: p, h => by
    simp only [List.take_succ_cons, List.map_cons, Low, papp, List.tail_cons]
    simp at h
    exact ⟨by omega, low_take n p (by omega)⟩
theorem step_low {r : R} {p : Pile} {m : Mk} (hp : p.length ≤ r.d) : Low (r.d + 1) p (step r p m).2 := by
  unfold step
  split
  · cases p with
    | nil => simp [Low]
    | cons x q =>
      dsimp only
      simp at hp
      split <;> simp [Low, papp] <;> omega
  · rcases m with _ | ⟨_ | _, x, _ | _⟩
    · simp [Low, papp]; omega
    · exact low_take _ _ (by omega)
    · show Low (r.d + 1) p (opened r p x).2
      unfold opened
      split
      · simp [Low, papp]; omega
      · by_cases q : r.kind x = .self ∧ p.head? = some x
        · rw [if_pos q]
          dsimp only
          split
          · simp [Low, papp]; omega
          · simp [Low, papp] at *; omega
        · rw [if_neg q]
          dsimp only
          split
          · simp [Low]
          · simp [Low, papp] at *; omega
    · simp [Low, papp]; omega
    · simp [Low, papp]; omega
theorem run_low {r : R} : ∀ (ms : List Mk) {p : Pile}, p.length ≤ r.d → Low (r.d + 1) p (run r p ms).2
  | [], p, _ => by simp [run, Low]
  | m :: ms, p, hp => by
    show Low (r.d + 1) p ((step r p m).2 ++ (run r (step r p m).1 ms).2)
    rw [low_app, (step_fit r p m).2]
    exact ⟨step_low hp, run_low ms (step_len hp).1⟩
theorem tapps_ok : ∀ {ds : List Dd} {L c : Nat} {rows : List (List Nd)} {p : Pile}, Fit p ds → Low c p ds → rows.length = p.length + 1 → (∀ a ∈ rows, a.length ≤ L) → RowsOk L c rows → RowsOk (L + ds.length) c (tapps rows ds) ∧ ∀ a ∈ tapps rows ds, a.length ≤ L + ds.length
  | [], L, c, rows, p, _, _, _, hw, h => ⟨h, hw⟩
  | d :: ds, L, c, rows, p, hf, hc, hl, hw, h => by
    have hf' : Fit p ([d] ++ ds) := hf
    rw [fit_app] at hf'
    have wide : ∀ {rows : List (List Nd)}, RowsOk L c rows → RowsOk (L + 1) c rows := by
      intro rows
      induction rows with
      | nil => exact fun h => h
      | cons a r ih => exact fun ⟨⟨k, hk, ha⟩, hr⟩ => ⟨⟨k, hk, fun n hn => (ha n hn).wide (by omega)⟩, ih hr⟩
    have hl2 : (tapp rows d).length = (papp p d).length + 1 := by
      rcases rows with _ | ⟨a, _ | ⟨b, r⟩⟩
      · simp at hl
      · have : p = [] := by cases p <;> simp at hl ⊢
        subst this
        cases d <;> simp [tapp, papp, Fit] at hf' ⊢
      · cases p with
        | nil => simp at hl
        | cons y q =>
          simp at hl
          cases d <;> simp [tapp, papp, hl]
    have ih := tapps_ok (ds := ds) (p := papp p d) hf'.2 hc.2 hl2 (tapp_wide hw) (wide (tapp_ok hf'.1 hl hc.1 hw h))
    rw [List.length_cons, show L + (ds.length + 1) = L + 1 + ds.length by omega]
    exact ih
/-- the tree of deeds -/
theorem tree_ok {ds : List Dd} {c : Nat} (hf : Fit [] ds) (hc : Low c [] ds) (hp : ds.foldl papp [] = []) : (tree ds).length ≤ ds.length ∧ ∀ n ∈ tree ds, NdOk ds.length c n := by
  have h0 : RowsOk 0 c [[]] := ⟨⟨c, rfl, by simp⟩, trivial⟩
  have ⟨h1, h2⟩ := tapps_ok (ds := ds) (L := 0) (c := c) (rows := [[]]) (p := []) hf hc rfl (by simp) h0
  have e := lapps_rows (l := ([], [])) hf
  have hn : names (lapps ([], []) ds) = [] := by rw [e.2]; exact hp
  have e1 : tapps [[]] ds = [(lapps ([], []) ds).2] := by
    rw [show ([[]] : List (List Nd)) = rowsOf ([], []) from rfl, ← e.1]
    generalize lapps ([], []) ds = l at hn
    obtain ⟨s, t⟩ := l
    cases s with
    | nil => rfl
    | cons a s => simp [names] at hn
  rw [tree, e1]
  rw [e1, Nat.zero_add] at h1 h2
  obtain ⟨⟨k, hk, ha⟩, _⟩ := h1
  refine ⟨h2 _ (by simp), fun n hn => ?_⟩
  have : k = c := by simpa using hk
  subst this
  exact ha n (by simpa using hn)
theorem deeds_fit (r : R) (ms : List Mk) : Fit [] (deeds r ms) ∧ (deeds r ms).foldl papp [] = [] := by
  have ⟨h1, h2⟩ := run_fit r ms []
  have ⟨h3, h4⟩ := ends_fit (run r [] ms).1
  rw [deeds, fit_app, List.foldl_append, h2]
  exact ⟨⟨h1, h3⟩, h4⟩
theorem deeds_low (r : R) (ms : List Mk) : Low (r.d + 1) [] (deeds r ms) := by
  have ⟨h1, h2⟩ := run_fit r ms []
  have hl := (run_len (r := r) (ms := ms) (p := []) (by simp)).1
  rw [deeds, low_app, h2]
  refine ⟨run_low ms (by simp), ?_⟩
  have := low_take (c := r.d + 1) (run r [] ms).1.length (run r [] ms).1 (by omega)
  simpa [ends] using this
theorem deeds_len {r : R} (hr : r.Ok) (ms : List Mk) : (deeds r ms).length ≤ 5 * ms.length + 3 := by
  have ⟨h1, h2⟩ := run_len (r := r) (ms := ms) (p := []) (by simp)
  have hd := hr.d3
  have : (r.d + 2) * ms.length ≤ 5 * ms.length := Nat.mul_le_mul_right _ (by omega)
  simp only [deeds, ends, List.length_append, List.length_map]
  omega
theorem read_ok {r : R} (hr : r.Ok) (ms : List Mk) : (read r ms).length ≤ 5 * ms.length + 3 ∧ ∀ n ∈ read r ms, NdOk (5 * ms.length + 3) 4 n := by
  have ⟨h1, h2⟩ := deeds_fit r ms
  have ⟨h3, h4⟩ := tree_ok h1 (deeds_low r ms) h2
  have hl := deeds_len hr ms
  exact ⟨by rw [read]; omega, fun n hn => ((h4 n hn).wide hl).mono (by have := hr.d3; omega)⟩
theorem gd_nd {L : Nat} (hL : 6 ≤ L) : ∀ {k : Nat} {n : Nd}, NdOk L k n → Gd L (2 * k) (eNd n)
  | k, _, .sg s => by rw [eNd_sg]; cases s <;> exact .str (by simp [eSs]; try omega)
  | k + 1, _, .pt x h hs => by
    rw [eNd_pt, show 2 * (k + 1) = 2 * k + 1 + 1 by omega]
    refine .tup (by simp; omega) fun d hd => ?_
    simp at hd
    rcases hd with rfl | rfl
    · exact .str (by simp; omega)
    · refine .tup (by simpa using h) fun d hd => ?_
      obtain ⟨n, hn, rfl⟩ := List.mem_map.mp hd
      exact gd_nd hL (hs n hn)
theorem gd_t {L k : Nat} {t : List Nd} (hL : 6 ≤ L) (h : t.length ≤ L) (hs : ∀ n ∈ t, NdOk L k n) : Gd L (2 * k + 1) (eT t) := by
  refine .tup (by simpa using h) fun d hd => ?_
  obtain ⟨n, hn, rfl⟩ := List.mem_map.mp hd
  exact gd_nd hL (hs n hn)
end Rdr
end
section
set_option maxRecDepth 100000
set_option maxHeartbeats 2000000
/-! RdL: operations on what stands for piles, marks, trees. -/
namespace Mini
section
variable {st : Store}
theorem ixN_neg {n k : Nat} (h1 : 1 ≤ k) (h2 : k ≤ n) : ixN n (-(k : Int)) = some (n - k) := by
  have e : ((-(k : Int)) + (n : Int)).toNat = n - k := by omega
  unfold ixN
  rw [if_neg (by omega), if_pos (by omega), e]
theorem ix_last_t {l : List D} {a : D} : idxD st (.tup (l ++ [a])) (.int (-1)) = some a := by
  show ((ixN (l ++ [a]).length (-((1 : Nat) : Int))).bind fun k => (l ++ [a])[k]?) = _
  rw [ixN_neg (by omega) (by simp)]
  simp
theorem ix_last_l {l : List D} {a : D} : idxD st (.lst (l ++ [a])) (.int (-1)) = some a := by
  show ((ixN (l ++ [a]).length (-((1 : Nat) : Int))).bind fun k => (l ++ [a])[k]?) = _
  rw [ixN_neg (by omega) (by simp)]
  simp
theorem ix_pen_l {l : List D} {a b : D} : idxD st (.lst (l ++ [b, a])) (.int (-2)) = some b := by
  show ((ixN (l ++ [b, a]).length (-((2 : Nat) : Int))).bind fun k => (l ++ [b, a])[k]?) = _
  rw [ixN_neg (by omega) (by simp)]
  simp
theorem clampI_neg {n k : Nat} (h1 : 1 ≤ k) (h2 : k ≤ n) : clampI n (-(k : Int)) = n - k := by
  have e : ((-(k : Int)) + (n : Int)).toNat = n - k := by omega
  unfold clampI
  rw [if_pos (by omega), e]
theorem cut_last {α : Type} {l : List α} {a : α} : cut (l ++ [a]) none (some (-1)) = l := by
  show ((l ++ [a]).take (clampI (l ++ [a]).length (-((1 : Nat) : Int)))).drop 0 = l
  rw [clampI_neg (by omega) (by simp)]
  simp
theorem cut_pen {α : Type} {l : List α} {a b : α} : cut (l ++ [b, a]) none (some (-2)) = l := by
  show ((l ++ [b, a]).take (clampI (l ++ [b, a]).length (-((2 : Nat) : Int)))).drop 0 = l
  rw [clampI_neg (by omega) (by simp)]
  simp
theorem cut_tail {α : Type} {l : List α} {a : α} : cut (a :: l) (some 1) none = l := by
  have e : min 1 (l.length + 1) = 1 := by omega
  simp [cut, clampI, e]
theorem cut_head {α : Type} {l : List α} (k : Nat) : cut l none (some (k : Int)) = l.take k := by
  have h : ¬ ((k : Int) < 0) := by omega
  simp [cut, clampI, h]
theorem sl_t' {xs : List D} {a b : Option Int} : sliceD (.tup xs) a b = some (.tup (cut xs a b)) := rfl
theorem sl_l' {xs : List D} {a b : Option Int} : sliceD (.lst xs) a b = some (.lst (cut xs a b)) := rfl
theorem sl_s' {xs : List Nat} {a b : Option Int} : sliceD (.str xs) a b = some (.str (cut xs a b)) := rfl
theorem line_le' {a b : Nat} (h : a ≤ b) (hb : b ≤ 16777216) : a ≤ line := Nat.le_trans h hb
theorem add_t' {xs ys : List D} (h : (xs ++ ys).length ≤ line) : binD .add (.tup xs) (.tup ys) = some (.tup (xs ++ ys)) := by
  show (if decide ((xs ++ ys).length ≤ line) then some (D.tup (xs ++ ys)) else none) = _
  rw [decide_eq_true h]; rfl
theorem add_l' {xs ys : List D} (h : (xs ++ ys).length ≤ line) : binD .add (.lst xs) (.lst ys) = some (.lst (xs ++ ys)) := by
  show (if decide ((xs ++ ys).length ≤ line) then some (D.lst (xs ++ ys)) else none) = _
  rw [decide_eq_true h]; rfl
theorem add_i' {a b : Int} : binD .add (.int a) (.int b) = some (.int (a + b)) := rfl
theorem sub_i' {a b : Int} : binD .sub (.int a) (.int b) = some (.int (a - b)) := rfl
theorem mt0 : mkTup [] = some (.tup []) := rfl
theorem mt1 {a : D} : mkTup [a] = some (.tup [a]) := rfl
theorem mt2 {a b : D} : mkTup [a, b] = some (.tup [a, b]) := rfl
theorem mt3 {a b c : D} : mkTup [a, b, c] = some (.tup [a, b, c]) := rfl
theorem mt4 {a b c d : D} : mkTup [a, b, c, d] = some (.tup [a, b, c, d]) := rfl
theorem ml0 : mkLst [] = some (.lst []) := rfl
theorem ml1 {a : D} : mkLst [a] = some (.lst [a]) := rfl
theorem ml2 {a b : D} : mkLst [a, b] = some (.lst [a, b]) := rfl
theorem ml3 {a b c : D} : mkLst [a, b, c] = some (.lst [a, b, c]) := rfl
theorem iy0' {a b : D} : idxD st (.tup [a, b]) (.int 0) = some a := rfl
theorem iy1' {a b : D} : idxD st (.tup [a, b]) (.int 1) = some b := rfl
theorem ix0' {a b c : D} : idxD st (.tup [a, b, c]) (.int 0) = some a := rfl
theorem ix1' {a b c : D} : idxD st (.tup [a, b, c]) (.int 1) = some b := rfl
theorem ix2' {a b c : D} : idxD st (.tup [a, b, c]) (.int 2) = some c := rfl
theorem eq_ss {a b : List Nat} : eqD (.str a) (.str b) = some (a == b) := rfl
theorem eq_ii' {a b : Int} : eqD (.int a) (.int b) = some (a == b) := rfl
theorem ceq {x y : D} : cmpD .eq x y = eqD x y := rfl
theorem cne {x y : D} : cmpD .ne x y = (eqD x y).map (!·) := rfl
theorem cge {a b : Int} : cmpD .ge (.int a) (.int b) = some (decide (b ≤ a)) := rfl
theorem cgt {a b : Int} : cmpD .gt (.int a) (.int b) = some (decide (b < a)) := rfl
theorem cle {a b : Int} : cmpD .le (.int a) (.int b) = some (decide (a ≤ b)) := rfl
theorem clt {a b : Int} : cmpD .lt (.int a) (.int b) = some (decide (a < b)) := rfl
theorem cin {x y : D} : cmpD .isin x y = inD x y := rfl
theorem cnin {x y : D} : cmpD .notin x y = (inD x y).map (!·) := rfl
theorem bt_name {i : Nat} {d : D} {ρ : Env} : bindT (.name i) d ρ = if i < ρ.length then some (ρ.set i (.val d)) else none := rfl
theorem bt2 {a b : Tgt} {x y : D} {ρ : Env} : bindT (.tup [a, b]) (.tup [x, y]) ρ = (bindT a x ρ).bind fun ρ1 => bindT b y ρ1 := by
  show (bindT a x ρ).bind (fun ρ1 => (bindT b y ρ1).bind fun ρ2 => some ρ2) = _
  congr 1
  funext ρ1
  cases bindT b y ρ1 <;> rfl
theorem bt3 {a b c : Tgt} {x y z : D} {ρ : Env} : bindT (.tup [a, b, c]) (.tup [x, y, z]) ρ = (bindT a x ρ).bind fun ρ1 => (bindT b y ρ1).bind fun ρ2 => bindT c z ρ2 := by
  show (bindT a x ρ).bind (fun ρ1 => (bindT b y ρ1).bind fun ρ2 => (bindT c z ρ2).bind fun ρ3 => some ρ3) = _
  congr 1
  funext ρ1
  congr 1
  funext ρ2
  cases bindT c z ρ2 <;> rfl
theorem bt4 {a b c d : Tgt} {x y z w : D} {ρ : Env} : bindT (.tup [a, b, c, d]) (.tup [x, y, z, w]) ρ = (bindT a x ρ).bind fun ρ1 => (bindT b y ρ1).bind fun ρ2 => (bindT c z ρ2).bind fun ρ3 => bindT d w ρ3 := by
  show (bindT a x ρ).bind (fun ρ1 => (bindT b y ρ1).bind fun ρ2 => (bindT c z ρ2).bind fun ρ3 => (bindT d w ρ3).bind fun ρ4 => some ρ4) = _
  congr 1
  funext ρ1
  congr 1
  funext ρ2
  congr 1
  funext ρ3
  cases bindT d w ρ3 <;> rfl
theorem s_while {G : List D} {cf : CallF} {wf : Nat} {ρ : Env} {c : Ex} {b : List Stm} : evS G cf wf (.while c b) ρ st = whileL (fun ρ' st' => (evE G cf c ρ' st').bind fun x st1 => lift (truth x) st1) (fun ρ' st' => evB G cf wf b ρ' st') wf ρ st := by rw [evS]
theorem wl_t {c : Env → Store → Res Bool} {body : Env → Store → SRes} {k : Nat} {ρ ρ2 : Env} {st1 st2 : Store} (h1 : c ρ st = .ok true st1) (h2 : body ρ st1 = .nx ρ2 st2) : whileL c body (k + 1) ρ st = whileL c body k ρ2 st2 := by
  rw [whileL, h1]
  dsimp only
  rw [h2]
theorem wl_f {c : Env → Store → Res Bool} {body : Env → Store → SRes} {k : Nat} {ρ : Env} {st1 : Store} (h1 : c ρ st = .ok false st1) : whileL c body (k + 1) ρ st = .nx ρ st1 := by
  rw [whileL, h1]
theorem fl_nil {t : Tgt} {body : Env → Store → SRes} {ρ : Env} : forL t body [] ρ st = .nx ρ st := by rw [forL]
theorem fl_cons {t : Tgt} {body : Env → Store → SRes} {x : D} {xs : List D} {ρ ρ1 ρ2 : Env} {st2 : Store} (h1 : bindT t x ρ = some ρ1) (h2 : body ρ1 st = .nx ρ2 st2) : forL t body (x :: xs) ρ st = forL t body xs ρ2 st2 := by
  rw [forL, h1]
  dsimp only
  rw [h2]
theorem nb (b : Bool) : (some b).map (!·) = some (!b) := rfl
theorem set_v {ρ : Env} {i : Nat} {d : D} (h : i < ρ.length) : setO ρ i false d = some (ρ.set i (.val d)) := by simp [setO, h]
end
end Mini
namespace Rdr
open Mini
section
variable {st : Store}
theorem eP_cons {x : Nat} {q : Pile} : eP (x :: q) = .tup (q.reverse.map eN ++ [eN x]) := by simp [eP]
theorem eP_nil : eP [] = .tup [] := rfl
theorem eP_idx {x : Nat} {q : Pile} : idxD st (eP (x :: q)) (.int (-1)) = some (eN x) := by rw [eP_cons, ix_last_t]
theorem eP_cut {x : Nat} {q : Pile} : sliceD (eP (x :: q)) none (some (-1)) = some (eP q) := by rw [eP_cons, sl_t', cut_last]; rfl
theorem eP_rev {p : Pile} : revD (eP p) = some (.tup (p.map eN)) := by simp [eP, revD]
theorem eP_len {p : Pile} : primD .len (eP p) = some (.int p.length) := by simp [eP, primD]
theorem eP_items {p : Pile} : items (eP p) = some (p.reverse.map eN) := rfl
theorem strs_ok : ∀ (p : Pile) (n : Nat), okDs (p.map eN) n = true
  | [], _ => rfl
  | w :: ws, n => by simp [okDs, okD, eN, strs_ok ws n]
theorem eP_nilB {p : Pile} : eqD (eP p) (.tup []) = some (p.isEmpty) := by
  have h : okD (eP p) 64 = true := by simp [eP, okD]; rw [← List.map_reverse]; exact strs_ok _ _
  have h2 : okD (.tup []) 64 = true := rfl
  simp only [eqD, h, h2, Bool.and_self, if_true]
  congr 1
  cases p with
  | nil => rfl
  | cons x q =>
    rw [eP_cons]
    cases h : q.reverse.map eN with
    | nil => rfl
    | cons a b => rfl
theorem eP_add {p : Pile} {x : Nat} (h : p.length ≤ 1000) : binD .add (eP p) (.tup [eN x]) = some (eP (x :: p)) := by
  rw [eP, add_t' (line_le' (b := 1001) (by simp; omega) (by omega)), eP_cons]
theorem eN_eq {x y : Nat} : eqD (eN x) (eN y) = some (decide (x = y)) := by
  rw [eN, eN, eq_ss]
  congr 1
  by_cases h : x = y
  · subst h; simp
  · rw [decide_eq_false h]
    rw [beq_eq_false_iff_ne]
    intro z
    simp at z
    exact h z
theorem eKs_inj {a b : K} (h : eKs a = eKs b) : a = b := by cases a <;> cases b <;> first | rfl | (simp [eKs] at h)
theorem eHs_inj {a b : Hb} (h : eHs a = eHs b) : a = b := by cases a <;> cases b <;> first | rfl | (simp [eHs] at h)
theorem eK_eq {k l : K} {s : List Nat} (h : s = eKs l) : eqD (eK k) (.str s) = some (decide (k = l)) := by
  subst h
  rw [eK, eq_ss]
  congr 1
  by_cases h : k = l
  · subst h; simp
  · rw [decide_eq_false h, beq_eq_false_iff_ne]
    exact fun z => h (eKs_inj z)
theorem eH_eq {k l : Hb} {s : List Nat} (h : s = eHs l) : eqD (eH k) (.str s) = some (decide (k = l)) := by
  subst h
  rw [eH, eq_ss]
  congr 1
  by_cases h : k = l
  · subst h; simp
  · rw [decide_eq_false h, beq_eq_false_iff_ne]
    exact fun z => h (eHs_inj z)
theorem eK_raw {k : K} : eqD (eK k) (.str [114, 97, 119]) = some (decide (k = .raw)) := eK_eq rfl
theorem eK_mode {k : K} : eqD (eK k) (.str [109, 111, 100, 101]) = some (decide (k = .mode)) := eK_eq rfl
theorem eK_void {k : K} : eqD (eK k) (.str [118, 111, 105, 100]) = some (decide (k = .void)) := eK_eq rfl
theorem eK_self {k : K} : eqD (eK k) (.str [115, 101, 108, 102]) = some (decide (k = .self)) := eK_eq rfl
theorem eH_top {k : Hb} : eqD (eH k) (.str [116, 111, 112]) = some (decide (k = .top)) := eH_eq rfl
theorem eH_search {k : Hb} : eqD (eH k) (.str [115, 101, 97, 114, 99, 104]) = some (decide (k = .search)) := eH_eq rfl
theorem eR_0 {r : R} : idxD st (eR r) (.int 0) = some (.tup (r.ks.map eK)) := rfl
theorem eR_1 {r : R} : idxD st (eR r) (.int 1) = some (eH r.h) := rfl
theorem eR_2 {r : R} : idxD st (eR r) (.int 2) = some (.int r.d) := rfl
theorem eks_ix {r : R} {x : Nat} (h : x < r.ks.length) : idxD st (.tup (r.ks.map eK)) (.int (x : Int)) = some (eK (r.kind x)) := by
  have h2 : ((x : Int) < (r.ks.length : Int)) := by omega
  simp [idxD, ixN, h2, R.kind, List.getD, h]
theorem six {x : Nat} (h : x < 3) : sixD (.str [97, 98, 99]) (eN x) = some (.int x) := by
  have : x = 0 ∨ x = 1 ∨ x = 2 := by omega
  rcases this with rfl | rfl | rfl <;> rfl
theorem meth_six {a b : D} : methD .sindex a [b] = sixD a b := rfl
theorem meth_tix {a b : D} : methD .tindex a [b] = tixD a b := rfl
theorem meth_rep {a b c : D} : methD .replace a [b, c] = repD a b c := rfl
theorem texts_names : ∀ (p : Pile), texts (p.map eN) = some (p.map fun x => [97 + x])
  | [] => rfl
  | x :: p => by simp [texts, texts_names p, eN]
theorem idxG_names {x : Nat} : ∀ (p : Pile), x ∈ p → idxG [97 + x] (p.map fun x => [97 + x]) = some (p.idxOf x)
  | [], h => by simp at h
  | y :: p, h => by
    by_cases e : y = x
    · subst e; simp [idxG, List.idxOf_cons]
    · have hx : x ∈ p := by
        rcases List.mem_cons.mp h with h | h
        · exact absurd h.symm e
        · exact h
      have e2 : ¬ (97 + y = 97 + x) := by omega
      have e3 : (y == x) = false := by simpa using e
      simp [idxG, e, idxG_names p hx, List.idxOf_cons, e3]
theorem tix {x : Nat} {p : Pile} (h : x ∈ p) : tixD (.tup (p.map eN)) (eN x) = some (.int (p.idxOf x)) := by
  show ((texts (p.map eN)).bind fun ys => (idxG [97 + x] ys).map fun (k : Nat) => D.int k) = _
  rw [texts_names]
  simp [idxG_names p h]
theorem any_names {x : Nat} : ∀ (p : Pile), ((p.map eN).any fun y => eqv y (eN x)) = decide (x ∈ p)
  | [] => by simp
  | y :: p => by
    rw [List.map_cons, List.any_cons, any_names p]
    by_cases e : x = y
    · subst e; simp [eqv, eN]
    · have e2 : ¬ (97 + y = 97 + x) := by omega
      have e3 : ¬ (y = x) := fun z => e z.symm
      simp [eqv, eN, e, e3]
theorem in_pile {x : Nat} {p : Pile} : inD (eN x) (eP p) = some (decide (x ∈ p)) := by
  have h : okDs (p.reverse.map eN) 63 = true := strs_ok _ _
  show inL (eN x) (p.reverse.map eN) = _
  rw [inL, h, any_names]
  simp [okD, eN]
theorem in_namesL {x : Nat} {p : Pile} : inD (eN x) (.lst (p.map eN)) = some (decide (x ∈ p)) := by
  have h : okDs (p.map eN) 63 = true := strs_ok _ _
  show inL (eN x) (p.map eN) = _
  rw [inL, h, any_names]
  simp [okD, eN]
/-! marks -/
theorem eMs_inj {n : Nat} {a b : Mk} (ha : MOk n a) (hb : MOk n b) (hn : n ≤ 3) (h : eMs a = eMs b) : a = b := by
  rcases a with _ | ⟨_ | _, x, p⟩ <;> rcases b with _ | ⟨_ | _, y, q⟩ <;> simp [eMs] at h ⊢
  · refine ⟨h.1, ?_⟩
    cases p <;> cases q <;> simp [pm] at h ⊢
  · refine ⟨h.1, ?_⟩
    cases p <;> cases q <;> simp [pm] at h ⊢
theorem eM_close {m : Mk} {x : Nat} : eqD (eM m) (.str [97 + x, 45]) = some (decide (m = .m false x false)) := by
  rw [eM, eq_ss]
  congr 1
  rcases m with _ | ⟨_ | _, y, p⟩
  · simp [eMs]
  · by_cases h : y = x
    · subst h
      cases p <;> simp [eMs, pm]
    · simp [eMs, h]
  · simp [eMs]
theorem eM_dot {m : Mk} : eqD (eM m) (.str [46]) = some (decide (m = .dot)) := by
  rw [eM, eq_ss]
  rcases m with _ | ⟨_ | _, y, p⟩ <;> simp [eMs]
theorem eM_0f {x : Nat} {b : Bool} : idxD st (eM (.m false x b)) (.int 0) = some (eN x) := rfl
theorem eM_0t {x : Nat} {b : Bool} : idxD st (eM (.m true x b)) (.int 0) = some (.str [38]) := rfl
theorem eM_1f {x : Nat} {b : Bool} : idxD st (eM (.m false x b)) (.int 1) = some (.str [pm b]) := rfl
theorem eN_amp {x : Nat} : eqD (eN x) (.str [38]) = some false := by rw [eN, eq_ss]; simp; omega
theorem amp_amp : eqD (.str [38]) (.str [38]) = some true := rfl
theorem pm_plus {b : Bool} : eqD (.str [pm b]) (.str [43]) = some b := by cases b <;> rfl
theorem eN_add {x : Nat} {c : Nat} : binD .add (eN x) (.str [c]) = some (.str [97 + x, c]) := by
  show mkStr ([97 + x] ++ [c]) = _
  rfl
/-! rows -/
def eRow (rows : List (List Nd)) : D := .lst (rows.reverse.map eT)
theorem eRow_cons {a : List Nd} {r : List (List Nd)} : eRow (a :: r) = .lst (r.reverse.map eT ++ [eT a]) := by simp [eRow]
theorem eRow_two {a b : List Nd} {r : List (List Nd)} : eRow (a :: b :: r) = .lst (r.reverse.map eT ++ [eT b, eT a]) := by simp [eRow]
theorem eRow_i1 {a : List Nd} {r : List (List Nd)} : idxD st (eRow (a :: r)) (.int (-1)) = some (eT a) := by rw [eRow_cons, ix_last_l]
theorem eRow_i2 {a b : List Nd} {r : List (List Nd)} : idxD st (eRow (a :: b :: r)) (.int (-2)) = some (eT b) := by rw [eRow_two, ix_pen_l]
theorem eRow_s1 {a : List Nd} {r : List (List Nd)} : sliceD (eRow (a :: r)) none (some (-1)) = some (eRow r) := by rw [eRow_cons, sl_l', cut_last]; rfl
theorem eRow_s2 {a b : List Nd} {r : List (List Nd)} : sliceD (eRow (a :: b :: r)) none (some (-2)) = some (eRow r) := by rw [eRow_two, sl_l', cut_pen]; rfl
theorem eRow_add {a : List Nd} {r : List (List Nd)} (h : r.length ≤ 1000000) : binD .add (eRow r) (.lst [eT a]) = some (eRow (a :: r)) := by
  rw [eRow, add_l' (line_le' (b := 1000001) (by simp; omega) (by omega)), eRow_cons]
theorem eT_add {a : List Nd} {n : Nd} {d : D} (hd : d = eNd n) (h : a.length ≤ 1000000) : binD .add (eT a) (.tup [d]) = some (eT (a ++ [n])) := by
  subst hd
  rw [eT, add_t' (line_le' (b := 1000001) (by simp; omega) (by omega))]
  simp [eT]
theorem eT_nil : eT [] = .tup [] := rfl
theorem eRow_0 {r : List (List Nd)} (h : r ≠ []) : idxD st (eRow r) (.int 0) = some (eT ((r.getLast?).getD [])) := by
  obtain ⟨q, a, rfl⟩ : ∃ q a, r = q ++ [a] := ⟨r.dropLast, r.getLast h, (List.dropLast_concat_getLast h).symm⟩
  have h2 : (0 : Int) < ((q.length : Int) + 1) := by omega
  simp [eRow, idxD, ixN, h2]
/-! the law's rows -/
def eNl (p : Pile) : D := .lst (p.reverse.map eN)
theorem eNl_cons {x : Nat} {q : Pile} : eNl (x :: q) = .lst (q.reverse.map eN ++ [eN x]) := by simp [eNl]
theorem eNl_idx {x : Nat} {q : Pile} : idxD st (eNl (x :: q)) (.int (-1)) = some (eN x) := by rw [eNl_cons, ix_last_l]
theorem eNl_cut {x : Nat} {q : Pile} : sliceD (eNl (x :: q)) none (some (-1)) = some (eNl q) := by rw [eNl_cons, sl_l', cut_last]; rfl
theorem eNl_len {p : Pile} : primD .len (eNl p) = some (.int p.length) := by simp [eNl, primD]
theorem eNl_items {p : Pile} : items (eNl p) = some (p.reverse.map eN) := rfl
theorem eNl_nilB {p : Pile} : eqD (eNl p) (.lst []) = some (p.isEmpty) := by
  have h : okD (eNl p) 64 = true := by simp [eNl, okD]; rw [← List.map_reverse]; exact strs_ok _ _
  have h2 : okD (.lst []) 64 = true := rfl
  simp only [eqD, h, h2, Bool.and_self, if_true]
  congr 1
  cases p with
  | nil => rfl
  | cons x q =>
    rw [eNl_cons]
    cases h : q.reverse.map eN with
    | nil => rfl
    | cons a b => rfl
theorem in_eNl {x : Nat} {p : Pile} : inD (eN x) (eNl p) = some (decide (x ∈ p)) := by
  have h : okDs (p.reverse.map eN) 63 = true := strs_ok _ _
  show inL (eN x) (p.reverse.map eN) = _
  rw [inL, h, any_names]
  simp [okD, eN]
/-- names[-1:] == [name] -/
theorem eNl_top {p : Pile} {x : Nat} : ∃ v, sliceD (eNl p) (some (-1)) none = some v ∧ eqD v (.lst [eN x]) = some (decide (p.head? = some x)) := by
  cases p with
  | nil => exact ⟨.lst [], rfl, by simp [eqD, okD, okDs, eN, eqv, eqvs]⟩
  | cons y q =>
    refine ⟨.lst [eN y], ?_, ?_⟩
    · rw [eNl_cons, sl_l']
      show some (D.lst (((q.reverse.map eN ++ [eN y]).take _).drop (clampI _ (-((1 : Nat) : Int))))) = _
      rw [clampI_neg (by omega) (by simp), List.take_length, List.drop_left' (by simp)]
    · have : eqD (.lst [eN y]) (.lst [eN x]) = (eqD (eN y) (eN x)) := by simp [eqD, okD, okDs, eN, eqv, eqvs]
      rw [this, eN_eq]
      simp
def rowF (q : D × List Nd) : D := .tup [q.1, eT q.2]
def eLr (ls : List (D × List Nd)) : D := .lst (ls.reverse.map rowF)
def lr (l : Lr) : List (D × List Nd) := l.1.map (fun q => (eN q.1, q.2)) ++ [(.str [], l.2)]
def eL (l : Lr) : D := eLr (lr l)
theorem lr_cons {x : Nat} {a t : List Nd} {s : List (Nat × List Nd)} : lr ((x, a) :: s, t) = (eN x, a) :: lr (s, t) := rfl
theorem lr_nil {t : List Nd} : lr ([], t) = [(.str [], t)] := rfl
theorem eLr_cons {a : D × List Nd} {r : List (D × List Nd)} : eLr (a :: r) = .lst (r.reverse.map rowF ++ [rowF a]) := by simp [eLr]
theorem eLr_two {a b : D × List Nd} {r : List (D × List Nd)} : eLr (a :: b :: r) = .lst (r.reverse.map rowF ++ [rowF b, rowF a]) := by simp [eLr]
theorem eLr_i1 {a : D × List Nd} {r : List (D × List Nd)} : idxD st (eLr (a :: r)) (.int (-1)) = some (rowF a) := by rw [eLr_cons, ix_last_l]
theorem eLr_i2 {a b : D × List Nd} {r : List (D × List Nd)} : idxD st (eLr (a :: b :: r)) (.int (-2)) = some (rowF b) := by rw [eLr_two, ix_pen_l]
theorem eLr_s1 {a : D × List Nd} {r : List (D × List Nd)} : sliceD (eLr (a :: r)) none (some (-1)) = some (eLr r) := by rw [eLr_cons, sl_l', cut_last]; rfl
theorem eLr_s2 {a b : D × List Nd} {r : List (D × List Nd)} : sliceD (eLr (a :: b :: r)) none (some (-2)) = some (eLr r) := by rw [eLr_two, sl_l', cut_pen]; rfl
theorem eLr_add {a : D × List Nd} {r : List (D × List Nd)} {d : D} (hd : d = rowF a) (h : r.length ≤ 1000000) : binD .add (eLr r) (.lst [d]) = some (eLr (a :: r)) := by
  subst hd
  rw [eLr, add_l' (line_le' (b := 1000001) (by simp; omega) (by omega)), eLr_cons]
theorem rowF_0 {a : D × List Nd} : idxD st (rowF a) (.int 0) = some a.1 := rfl
theorem rowF_1 {a : D × List Nd} : idxD st (rowF a) (.int 1) = some (eT a.2) := rfl
theorem lr_len {l : Lr} : (lr l).length = l.1.length + 1 := by simp [lr]
theorem eL_len {l : Lr} : primD .len (eL l) = some (.int ((l.1.length : Int) + 1)) := by
  show some (D.int (((lr l).reverse.map rowF).length : Int)) = _
  rw [List.length_map, List.length_reverse, lr_len]
  rfl
/-- rows[1:] -/
theorem eL_tail {l : Lr} : sliceD (eL l) (some 1) none = some (.lst ((l.1.map (fun q => (eN q.1, q.2))).reverse.map rowF)) := by
  show sliceD (.lst ((lr l).reverse.map rowF)) (some 1) none = _
  rw [lr, List.reverse_append, List.map_append]
  exact congrArg (fun x => some (D.lst x)) cut_tail
theorem eL_0 {l : Lr} : idxD st (eL l) (.int 0) = some (rowF (.str [], l.2)) := by
  show idxD st (.lst ((lr l).reverse.map rowF)) (.int 0) = _
  rw [lr, List.reverse_append, List.map_append]
  have h2 : (0 : Int) < ((l.1.length : Int) + 1) := by omega
  simp [idxD, ixN, h2]
theorem rowF_part {x : Nat} {a : List Nd} : rowF (eN x, a) = eNd (.pt x a) := by rw [eNd_pt]; rfl
theorem eM_mid {a : Bool} {x : Nat} {p : Bool} : sliceD (eM (.m a x p)) (some (-2)) (some (-1)) = some (eN x) := by cases a <;> rfl
theorem eM_midd : sliceD (eM .dot) (some (-2)) (some (-1)) = some (.str []) := rfl
theorem eM_rep {m : Mk} : repD (eM m) (.str [38]) (.str []) = some (eS (sgn m)) := by
  rcases m with _ | ⟨_ | _, x, p⟩
  · rfl
  · have h : ¬ (97 + x = 38) := by omega
    cases p <;> simp [repD, eM, eMs, eS, eSs, sgn, fits, pm, h] <;> decide
  · have h : ¬ (97 + x = 38) := by omega
    cases p <;> simp [repD, eM, eMs, eS, eSs, sgn, fits, pm, h] <;> decide
theorem eM_cutd : sliceD (eM .dot) none (some 1) = some (.str [46]) := rfl
theorem eM_cutt {x : Nat} {p : Bool} : sliceD (eM (.m true x p)) none (some 1) = some (.str [38]) := rfl
theorem eM_cutf {x : Nat} {p : Bool} : sliceD (eM (.m false x p)) none (some 1) = some (eN x) := rfl
theorem bt_R {r : R} {a b c : Tgt} {ρ : Env} : bindT (.tup [a, b, c]) (eR r) ρ = (bindT a (.tup (r.ks.map eK)) ρ).bind fun ρ1 => (bindT b (eH r.h) ρ1).bind fun ρ2 => bindT c (.int r.d) ρ2 := bt3
theorem eN_dash {x : Nat} : (D.str [97 + x, 45]) = .str [97 + x, 45] := rfl
theorem lap_cl {l : Lr} {x : Nat} : lapps l [.cl x] = lshut l := rfl
theorem lap_sg {l : Lr} {s : Sg} : lapps l [.sg s] = lput l (.sg s) := rfl
theorem lap_vd {l : Lr} {x : Nat} : lapps l [.vd x] = lput l (.pt x []) := rfl
theorem eL_push {l : Lr} {x : Nat} (h : l.1.length ≤ 1000) : binD .add (eL l) (.lst [.tup [eN x, .tup []]]) = some (eL ((x, []) :: l.1, l.2)) := by
  exact eLr_add (a := (eN x, [])) (r := lr l) rfl (by rw [lr_len]; omega)
theorem eL_top {x : Nat} {a : List Nd} {s : List (Nat × List Nd)} {t : List Nd} : idxD st (eL ((x, a) :: s, t)) (.int (-1)) = some (rowF (eN x, a)) := by
  rw [eL, lr_cons, eLr_i1]
/-- how long rows are -/
def LOk (N : Nat) (l : Lr) : Prop := l.1.length ≤ 1000 ∧ (∀ q ∈ l.1, q.2.length ≤ N) ∧ l.2.length ≤ N
theorem LOk.mono {N M : Nat} {l : Lr} (h : LOk N l) (le : N ≤ M) : LOk M l := ⟨h.1, fun q hq => Nat.le_trans (h.2.1 q hq) le, Nat.le_trans h.2.2 le⟩
theorem lshut_ok {N : Nat} {l : Lr} (h : LOk N l) : LOk (N + 1) (lshut l) := by
  rcases l with ⟨_ | ⟨⟨x, a⟩, _ | ⟨⟨y, b⟩, s⟩⟩, t⟩
  · exact h.mono (by omega)
  · exact ⟨by simp [lshut], by simp [lshut], by have := h.2.2; simp [lshut]; exact this⟩
  · refine ⟨by have := h.1; simp [lshut] at this ⊢; omega, fun q hq => ?_, by have := h.2.2; simp [lshut]; simp at this; omega⟩
    simp [lshut] at hq
    rcases hq with rfl | hq
    · have := h.2.1 (y, b) (by simp)
      simp at this ⊢
      omega
    · have := h.2.1 q (by simp [hq])
      omega
theorem lput_ok {N : Nat} {l : Lr} {n : Nd} (h : LOk N l) : LOk (N + 1) (lput l n) := by
  rcases l with ⟨_ | ⟨⟨x, a⟩, s⟩, t⟩
  · exact ⟨by simp [lput], by simp [lput], by have := h.2.2; simp [lput]; exact this⟩
  · refine ⟨by have := h.1; simp [lput] at this ⊢; omega, fun q hq => ?_, by have := h.2.2; simp [lput]; simp at this; omega⟩
    simp [lput] at hq
    rcases hq with rfl | hq
    · have := h.2.1 (x, a) (by simp)
      simp at this ⊢
      omega
    · have := h.2.1 q (by simp [hq])
      omega
theorem names_lshut {l : Lr} : names (lshut l) = (names l).tail := by
  rcases l with ⟨_ | ⟨⟨x, a⟩, _ | ⟨⟨y, b⟩, s⟩⟩, t⟩ <;> rfl
theorem lapps_cl_cons {l : Lr} {x : Nat} {q : List Nat} : lapps l ((x :: q).map .cl) = lapps (lshut l) (q.map .cl) := rfl
theorem names_len {l : Lr} : (names l).length = l.1.length := by simp [names]
theorem names_lapps_cl : ∀ (q : List Nat) (l : Lr), names (lapps l (q.map .cl)) = (names l).drop q.length
  | [], l => by simp [lapps]
  | x :: q, l => by
    rw [lapps_cl_cons, names_lapps_cl q, names_lshut]
    cases names l <;> simp
theorem lapps_cl_ok : ∀ (q : List Nat) {N : Nat} {l : Lr}, LOk N l → LOk (N + q.length) (lapps l (q.map .cl))
  | [], N, l, h => h
  | x :: q, N, l, h => by
    have := lapps_cl_ok q (lshut_ok h)
    rw [lapps_cl_cons]
    exact this.mono (by simp; omega)
theorem lapp_ok {N : Nat} {l : Lr} {d : Dd} (hl : l.1.length + 1 ≤ 1000) (h : LOk N l) : LOk (N + 1) (lapp l d) := by
  cases d with
  | op x =>
    refine ⟨by simpa [lapp] using hl, fun q hq => ?_, by have := h.2.2; show l.2.length ≤ N + 1; omega⟩
    rcases List.mem_cons.mp hq with rfl | hq
    · simp
    · have := h.2.1 q hq; omega
  | cl x => exact lshut_ok h
  | vd x => exact lput_ok h
  | sg s => exact lput_ok h
theorem lapps_ok : ∀ (ds : List Dd) {N : Nat} {l : Lr}, l.1.length + ds.length ≤ 1000 → LOk N l → LOk (N + ds.length) (lapps l ds)
  | [], N, l, _, h => h
  | d :: ds, N, l, hl, h => by
    have h1 : (lapp l d).1.length ≤ l.1.length + 1 := by
      rcases l with ⟨_ | ⟨⟨x, a⟩, _ | ⟨⟨y, b⟩, s⟩⟩, t⟩ <;> cases d <;> simp [lapp, lshut, lput]
    rw [List.length_cons] at hl
    have := lapps_ok ds (N := N + 1) (l := lapp l d) (by omega) (lapp_ok (by omega) h)
    rw [List.length_cons, show N + (ds.length + 1) = N + 1 + ds.length by omega]
    exact this
theorem cut_pile {p : Pile} {k : Nat} (h : k ≤ p.length) : cut (p.reverse.map eN) none (some ((p.length : Int) - (k : Int))) = (p.drop k).reverse.map eN := by
  rw [show ((p.length : Int) - (k : Int)) = ((p.length - k : Nat) : Int) by omega, cut_head, ← List.map_take, List.take_reverse, show p.length - (p.length - k) = k by omega]
end
end Rdr
namespace Mini
section
variable {G : List D} {cf : CallF}
theorem lc_run {bind : D → Option Env} {elt : Env → Store → Res D} (N : Nat) (I : Nat → Store → Prop) (Y : D → Prop) : ∀ (xs acc : List D) (k : Nat) (st : Store), (∀ x ∈ xs, ∀ k st, k < N → I k st → ∃ ρ y st', bind x = some ρ ∧ elt ρ st = .ok y st' ∧ I (k + 1) st' ∧ Y y) → acc.length + xs.length ≤ line → k + xs.length ≤ N → I k st →
    ∃ ys st', lcL bind (fun _ st => .ok true st) elt acc xs st = .ok (acc ++ ys) st' ∧ I (k + xs.length) st' ∧ (∀ y ∈ ys, Y y) ∧ ys.length = xs.length
  | [], acc, k, st, _, _, _, hI => ⟨[], st, by simp [lcL], by simpa using hI, by simp, rfl⟩
  | x :: xs, acc, k, st, h, hl, hN, hI => by
    rw [List.length_cons] at hl hN
    obtain ⟨ρ, y, st1, e1, e2, hI1, hy⟩ := h x List.mem_cons_self k st (by omega) hI
    obtain ⟨ys, st2, e3, hI2, hys, hlen⟩ := lc_run N I Y xs (acc ++ [y]) (k + 1) st1 (fun z hz => h z (List.mem_cons_of_mem _ hz)) (by rw [List.length_append]; simp; omega) (by omega) hI1
    refine ⟨y :: ys, st2, ?_, by rw [List.length_cons, show k + (xs.length + 1) = k + 1 + xs.length by omega]; exact hI2, fun z hz => ?_, by rw [List.length_cons, List.length_cons, hlen]⟩
    · rw [lcL, e1]
      dsimp only
      rw [b_ok, if_pos rfl, e2, b_ok, if_pos (decide_eq_true (by omega)), e3]
      simp
    · rcases List.mem_cons.1 hz with rfl | hz
      · exact hy
      · exact hys z hz
/-- [e for name i in range(m)], the parts may write -/
theorem e_rng {ρ : Env} {st st0 : Store} {i : Nat} {e hi : Ex} {m : Nat} (I : Nat → Store → Prop) (Y : D → Prop) (h0 : evE G cf hi ρ st = .ok (.int m) st0) (hm : m ≤ 1000) (hI : I 0 st0)
    (step : ∀ (x : D) (k : Nat) (st : Store), k < m → I k st → ∃ y st', evE G cf e ((ρ.set i .non).set i (.val x)) st = .ok y st' ∧ I (k + 1) st' ∧ Y y) (hi' : i < ρ.length) :
    ∃ ys st', evE G cf (.lc e (.name i) (.range none hi) none) ρ st = .ok (.lst ys) st' ∧ I m st' ∧ (∀ y ∈ ys, Y y) ∧ ys.length = m := by
  have hr : rangeD none (.int m) = some ((List.range m).map fun (k : Nat) => D.int (k : Int)) := by
    have h1 : decide ((m : Int) ≤ line) = true := decide_eq_true (by show (m : Int) ≤ ((16777216 : Nat) : Int); omega)
    have h2 : decide (-(line : Int) ≤ m) = true := decide_eq_true (by show -((16777216 : Nat) : Int) ≤ (m : Int); omega)
    simp only [rangeD, h1, h2, Bool.and_self, if_true, Int.toNat_natCast]
  have hl : ((List.range m).map fun (k : Nat) => D.int (k : Int)).length = m := by simp
  obtain ⟨ys, st', e1, e2, e3, e4⟩ := lc_run (bind := fun x => bindT (.name i) x (wipeE ρ (slotsT (.name i)))) (elt := fun ρ' st' => (evE G cf e ρ' st').calm) m I Y ((List.range m).map fun (k : Nat) => D.int (k : Int)) [] 0 st0 (fun x _ k st hk hI => by
    obtain ⟨y, st', a1, a2, a3⟩ := step x k st hk hI
    exact ⟨(ρ.set i .non).set i (.val x), y, st', by simp [bindT, slotsT, wipeE, hi'], by rw [a1]; rfl, a2, a3⟩) (by rw [hl]; show 0 + m ≤ 16777216; omega) (by rw [hl]; omega) hI
  rw [hl] at e2 e4
  refine ⟨ys, st', ?_, by simpa using e2, e3, e4⟩
  have t : (fun (ρ' : Env) (st' : Store) => (evT G cf none ρ' st').calm) = fun _ st => .ok true st := by funext ρ' st'; rw [evT]; rfl
  rw [evE, evIt, evI, b_ok, h0, b_ok, hr, l_ok, b_ok, t, e1, b_ok, List.nil_append]
/-- for, by what holds after k turns, at most N -/
theorem for_run {t : Tgt} {body : Env → Store → SRes} (N : Nat) (I : Nat → Env → Store → Prop) : ∀ (xs : List D) (k : Nat) (ρ : Env) (st : Store), (∀ x ∈ xs, ∀ k ρ st, k < N → I k ρ st → ∃ ρ1 ρ2 st2, bindT t x ρ = some ρ1 ∧ body ρ1 st = .nx ρ2 st2 ∧ I (k + 1) ρ2 st2) → k + xs.length ≤ N → I k ρ st →
    ∃ ρ' st', forL t body xs ρ st = .nx ρ' st' ∧ I (k + xs.length) ρ' st'
  | [], k, ρ, st, _, _, h => ⟨ρ, st, by simp [forL], h⟩
  | x :: xs, k, ρ, st, h, hN, hI => by
    rw [List.length_cons] at hN
    obtain ⟨ρ1, ρ2, st2, e1, e2, hI2⟩ := h x List.mem_cons_self k ρ st (by omega) hI
    obtain ⟨ρ', st', e3, hI3⟩ := for_run N I xs (k + 1) ρ2 st2 (fun z hz => h z (List.mem_cons_of_mem _ hz)) (by omega) hI2
    refine ⟨ρ', st', ?_, by rw [List.length_cons, show k + (xs.length + 1) = k + 1 + xs.length by omega]; exact hI3⟩
    rw [forL, e1]
    dsimp only
    rw [e2]
    exact e3
/-- a range -/
theorem rng_n {m : Nat} (hm : m ≤ 1000000) : rangeD none (.int m) = some ((List.range m).map fun (k : Nat) => D.int (k : Int)) := by
  have h1 : decide ((m : Int) ≤ line) = true := decide_eq_true (by show (m : Int) ≤ ((16777216 : Nat) : Int); omega)
  have h2 : decide (-(line : Int) ≤ m) = true := decide_eq_true (by show -((16777216 : Nat) : Int) ≤ (m : Int); omega)
  simp only [rangeD, h1, h2, Bool.and_self, if_true, Int.toNat_natCast]
theorem s_append {wf i : Nat} {e : Ex} {xs : List D} {ρ : Env} {st : Store} (h : ρ[i]? = some (.own (.lst xs))) : evS G cf wf (.append i e) ρ st = (evE G cf e ρ st).toS fun d st1 => if fits (d :: xs) then .nx (ρ.set i (.own (.lst (xs ++ [d])))) st1 else .stuck := by
  rw [evS]
  simp [h]
theorem fits_l {α : Type} {xs : List α} (h : xs.length ≤ 16777216) : fits xs = true := decide_eq_true h
/-- [e for name i in range(m)] -/
theorem e_rngf {ρ : Env} {st : Store} {i : Nat} {e hi : Ex} {m : Nat} (f : Nat → D) (h0 : evE G cf hi ρ st = .ok (.int m) st) (hm : m ≤ 1000000) (h : ∀ k, k < m → evE G cf e ((ρ.set i .non).set i (.val (.int k))) st = .ok (f k) st) (hi' : i < ρ.length) :
    evE G cf (.lc e (.name i) (.range none hi) none) ρ st = .ok (.lst ((List.range m).map f)) st := by
  have hr := rng_n hm
  have hl : ((List.range m).map fun (k : Nat) => D.int (k : Int)).length = m := by simp
  have key := lc_pure (bind := fun x => bindT (.name i) x (wipeE ρ (slotsT (.name i)))) (cond := fun _ st => .ok true st) (elt := fun ρ' st' => (evE G cf e ρ' st').calm) (st := st) (fun _ => true) (fun x => match x with | .int k => f k.toNat | _ => .non) ((List.range m).map fun (k : Nat) => D.int (k : Int)) [] (fun x hx => by
    obtain ⟨k, hk, rfl⟩ := List.mem_map.mp hx
    exact ⟨(ρ.set i .non).set i (.val (.int k)), by simp [bindT, slotsT, wipeE, hi'], rfl, fun _ => by rw [h k (List.mem_range.mp hk)]; rfl⟩) (by rw [hl]; show 0 + m ≤ 16777216; omega)
  have t : (fun (ρ' : Env) (st' : Store) => (evT G cf none ρ' st').calm) = fun _ st => .ok true st := by funext ρ' st'; rw [evT]; rfl
  rw [evE, evIt, evI, b_ok, h0, b_ok, hr, l_ok, b_ok, t, key, b_ok, List.nil_append, List.filter_eq_self.mpr fun _ _ => rfl, List.map_map]
  rfl
theorem v_callv {f : Nat} {as : List Ar} {ρ : Env} {st : Store} : evE G cf (.callv 0 as) (.val (.fn f) :: ρ) st = (evAs G cf as (.val (.fn f) :: ρ) st).bind fun ss st1 => cf f ss st1 := by
  rw [evE]
  rfl
theorem v_fnv {f : Nat} {ρ : Env} {st : Store} : evE G cf (.fnv f) ρ st = .ok (.fn f) st := by rw [evE]
theorem pt_l' {xs : List D} : primD .tuple (.lst xs) = some (.tup xs) := rfl
/-- [.. for .. if c], c false throughout -/
theorem e_none {t : Tgt} {elt c : Ex} {it : Itr} {ρ : Env} {st : Store} {xs : List D} (hit : evIt G cf it ρ st = .ok xs st) (h : ∀ x ∈ xs, ∃ ρ', bindT t x (wipeE ρ (slotsT t)) = some ρ' ∧ evE G cf c ρ' st = .ok (.bl false) st) (hl : xs.length ≤ line) : evE G cf (.lc elt t it (some c)) ρ st = .ok (.lst []) st := by
  have key := lc_pure (bind := fun x => bindT t x (wipeE ρ (slotsT t))) (cond := fun ρ' st' => (evT G cf (some c) ρ' st').calm) (elt := fun ρ' st' => (evE G cf elt ρ' st').calm) (st := st) (fun _ => false) id xs [] (fun x hx => by
    obtain ⟨ρ', e1, e2⟩ := h x hx
    refine ⟨ρ', e1, ?_, fun z => absurd z (by simp)⟩
    rw [evT, e2]; rfl) (by simpa using hl)
  rw [evE, hit, b_ok, key, b_ok]
  simp
theorem enum_mem : ∀ (xs : List D) (n : Nat) {x : D}, x ∈ enumL n xs → ∃ (i : Nat) (y : D), x = .tup [.int ((n + i : Nat) : Int), y] ∧ xs[i]? = some y
  | [], n, x, h => by simp [enumL] at h
  | y :: ys, n, x, h => by
    rw [enumL] at h
    rcases List.mem_cons.mp h with rfl | h
    · exact ⟨0, y, by simp, rfl⟩
    · obtain ⟨i, z, e1, e2⟩ := enum_mem ys (n + 1) h
      exact ⟨i + 1, z, by rw [e1, show n + 1 + i = n + (i + 1) by omega], by simpa using e2⟩
theorem enum_len : ∀ (xs : List D) (n : Nat), (enumL n xs).length = xs.length
  | [], n => rfl
  | y :: ys, n => by rw [enumL, List.length_cons, enum_len ys, List.length_cons]
theorem ix_get {st : Store} {xs : List D} {i : Nat} {y : D} (h : xs[i]? = some y) : idxD st (.lst xs) (.int i) = some y ∧ idxD st (.tup xs) (.int i) = some y := by
  have lt := (List.getElem?_eq_some_iff.mp h).1
  have h2 : ((i : Int) < (xs.length : Int)) := by omega
  simp [idxD, ixN, h2, h]
end
end Mini
end
section
set_option maxRecDepth 100000
set_option maxHeartbeats 4000000
/-! RdM: what the reader's defs compute. -/
namespace K02
open Mini Rdr
abbrev W : Nat := 5000000
section
variable {r : R} {n : Nat} {st : Store}
theorem g_names : prog.globs[0]? = some (.str [97, 98, 99]) := rfl
theorem w_kind_of {x : Nat} (h : x < r.ks.length) (h3 : r.ks.length ≤ 3) : callN prog W (n + 1) 8 [.val (eR r), .val (eN x)] st = .ok (eK (r.kind x)) st := by
  rw [call_def (d := f8) rfl rfl rfl]
  simp only [f8, v_con, v_var, v_peek, v_glob, v_tup, v_lst, v_cellL, v_bin, v_cmp, v_chain, v_and, v_or, v_not, v_ite, v_idx, v_slice, v_rev, v_call, v_prim, v_meth, v_neg, evEs, evAs, evA, evI, evT, evIt, evB_cons, evB_nil, s_ite, s_ret, s_set, s_expr, s_raise, s_freeze, s_setT, s_put, s_par, s_for, p_ok, b_ok, b_ra, t_ok, t_ra, l_ok, cm_ok, q_nx, q_ret, q_ra, c_t, c_f, tr_bl, f_ret, f_nx, f_ra, nx_some, varD, peekD, setO, List.getElem?_cons_zero, List.getElem?_cons_succ, List.cons_append, List.nil_append, List.append_nil, List.replicate, Nat.sub_self, List.set_cons_zero, List.set_cons_succ, List.length_cons, List.length_nil, Option.map_some, Option.map_none, Option.bind_some, if_true, reduceIte, Nat.reduceAdd, Nat.reduceLT, Nat.reduceSub, Bool.not_true, Bool.not_false, Bool.false_eq_true, Bool.false_and, Bool.true_and, Bool.and_false, Bool.and_true, primD, intO, items, eR_0, g_names, meth_six, six (show x < 3 by omega), eks_ix h]
theorem w_reads_raw {p : Pile} (hp : POk r.ks.length p) (h3 : r.ks.length ≤ 3) (hl : p.length ≤ 1000) : callN prog W (n + 2) 9 [.val (eR r), .val (eP p)] st = .ok (.bl (r.raw p)) st := by
  rw [call_def (d := f9) rfl rfl rfl]
  cases p with
  | nil => 
    simp only [f9, v_con, v_var, v_peek, v_glob, v_tup, v_lst, v_cellL, v_bin, v_cmp, v_chain, v_and, v_or, v_not, v_ite, v_idx, v_slice, v_rev, v_call, v_prim, v_meth, v_neg, evEs, evAs, evA, evI, evT, evIt, evB_cons, evB_nil, s_ite, s_ret, s_set, s_expr, s_raise, s_freeze, s_setT, s_put, s_par, s_for, p_ok, b_ok, b_ra, t_ok, t_ra, l_ok, cm_ok, q_nx, q_ret, q_ra, c_t, c_f, tr_bl, f_ret, f_nx, f_ra, nx_some, varD, peekD, setO, List.getElem?_cons_zero, List.getElem?_cons_succ, List.cons_append, List.nil_append, List.append_nil, List.replicate, Nat.sub_self, List.set_cons_zero, List.set_cons_succ, List.length_cons, List.length_nil, Option.map_some, Option.map_none, Option.bind_some, if_true, reduceIte, Nat.reduceAdd, Nat.reduceLT, Nat.reduceSub, Bool.not_true, Bool.not_false, Bool.false_eq_true, Bool.false_and, Bool.true_and, Bool.and_false, Bool.and_true, primD, intO, items, mt0, ceq, eP_nilB, List.isEmpty_nil, R.raw]
  | cons x q =>
    have hx : x < r.ks.length := hp x (by simp)
    have hE : evE prog.globs (callN prog W (n + 1)) f9c0 [.val (eR r), .val (eP (x :: q)), .non] st = .ok (.lst ((q.reverse.map eN).map fun x => match x with | .str [c] => .bl (decide (r.kind (c - 97) = .mode)) | _ => .non)) st := by
      refine e_map _ (v := eP q) ?_ (eP_items) (fun y hy => ?_) (by simp) (by simp at hl ⊢; exact line_le' (b := 1000) (by omega) (by omega))
      · simp only [v_con, v_var, v_peek, v_glob, v_tup, v_lst, v_cellL, v_bin, v_cmp, v_chain, v_and, v_or, v_not, v_ite, v_idx, v_slice, v_rev, v_call, v_prim, v_meth, v_neg, evEs, evAs, evA, evI, evT, evIt, evB_cons, evB_nil, s_ite, s_ret, s_set, s_expr, s_raise, s_freeze, s_setT, s_put, s_par, s_for, p_ok, b_ok, b_ra, t_ok, t_ra, l_ok, cm_ok, q_nx, q_ret, q_ra, c_t, c_f, tr_bl, f_ret, f_nx, f_ra, nx_some, varD, peekD, setO, List.getElem?_cons_zero, List.getElem?_cons_succ, List.cons_append, List.nil_append, List.append_nil, List.replicate, Nat.sub_self, List.set_cons_zero, List.set_cons_succ, List.length_cons, List.length_nil, Option.map_some, Option.map_none, Option.bind_some, if_true, reduceIte, Nat.reduceAdd, Nat.reduceLT, Nat.reduceSub, Bool.not_true, Bool.not_false, Bool.false_eq_true, Bool.false_and, Bool.true_and, Bool.and_false, Bool.and_true, primD, intO, items, eP_cut]
      · obtain ⟨z, hz, rfl⟩ := List.mem_map.mp hy
        have hz : z < r.ks.length := hp z (by simp at hz ⊢; exact .inr hz)
        simp only [v_con, v_var, v_peek, v_glob, v_tup, v_lst, v_cellL, v_bin, v_cmp, v_chain, v_and, v_or, v_not, v_ite, v_idx, v_slice, v_rev, v_call, v_prim, v_meth, v_neg, evEs, evAs, evA, evI, evT, evIt, evB_cons, evB_nil, s_ite, s_ret, s_set, s_expr, s_raise, s_freeze, s_setT, s_put, s_par, s_for, p_ok, b_ok, b_ra, t_ok, t_ra, l_ok, cm_ok, q_nx, q_ret, q_ra, c_t, c_f, tr_bl, f_ret, f_nx, f_ra, nx_some, varD, peekD, setO, List.getElem?_cons_zero, List.getElem?_cons_succ, List.cons_append, List.nil_append, List.append_nil, List.replicate, Nat.sub_self, List.set_cons_zero, List.set_cons_succ, List.length_cons, List.length_nil, Option.map_some, Option.map_none, Option.bind_some, if_true, reduceIte, Nat.reduceAdd, Nat.reduceLT, Nat.reduceSub, Bool.not_true, Bool.not_false, Bool.false_eq_true, Bool.false_and, Bool.true_and, Bool.and_false, Bool.and_true, primD, intO, items, w_kind_of hz h3, ceq, eK_mode]
        simp [eN]
    have e2 : ((q.reverse.map eN).map fun x => match x with | .str [c] => D.bl (decide (r.kind (c - 97) = .mode)) | _ => .non) = (q.reverse).map fun y => D.bl (decide (r.kind y = .mode)) := by
      simp [eN]
    rw [e2] at hE
    cases hk : decide (r.kind x = .raw) with
    | false => simp only [f9, hE, v_con, v_var, v_peek, v_glob, v_tup, v_lst, v_cellL, v_bin, v_cmp, v_chain, v_and, v_or, v_not, v_ite, v_idx, v_slice, v_rev, v_call, v_prim, v_meth, v_neg, evEs, evAs, evA, evI, evT, evIt, evB_cons, evB_nil, s_ite, s_ret, s_set, s_expr, s_raise, s_freeze, s_setT, s_put, s_par, s_for, p_ok, b_ok, b_ra, t_ok, t_ra, l_ok, cm_ok, q_nx, q_ret, q_ra, c_t, c_f, tr_bl, f_ret, f_nx, f_ra, nx_some, varD, peekD, setO, List.getElem?_cons_zero, List.getElem?_cons_succ, List.cons_append, List.nil_append, List.append_nil, List.replicate, Nat.sub_self, List.set_cons_zero, List.set_cons_succ, List.length_cons, List.length_nil, Option.map_some, Option.map_none, Option.bind_some, if_true, reduceIte, Nat.reduceAdd, Nat.reduceLT, Nat.reduceSub, Bool.not_true, Bool.not_false, Bool.false_eq_true, Bool.false_and, Bool.true_and, Bool.and_false, Bool.and_true, primD, intO, items, mt0, ceq, cne, eP_nilB, List.isEmpty_cons, eP_idx, Int.reduceNeg, w_kind_of hx h3, eK_raw, hk, nb, R.raw, Bool.false_and]
    | true => simp only [f9, hE, v_con, v_var, v_peek, v_glob, v_tup, v_lst, v_cellL, v_bin, v_cmp, v_chain, v_and, v_or, v_not, v_ite, v_idx, v_slice, v_rev, v_call, v_prim, v_meth, v_neg, evEs, evAs, evA, evI, evT, evIt, evB_cons, evB_nil, s_ite, s_ret, s_set, s_expr, s_raise, s_freeze, s_setT, s_put, s_par, s_for, p_ok, b_ok, b_ra, t_ok, t_ra, l_ok, cm_ok, q_nx, q_ret, q_ra, c_t, c_f, tr_bl, f_ret, f_nx, f_ra, nx_some, varD, peekD, setO, List.getElem?_cons_zero, List.getElem?_cons_succ, List.cons_append, List.nil_append, List.append_nil, List.replicate, Nat.sub_self, List.set_cons_zero, List.set_cons_succ, List.length_cons, List.length_nil, Option.map_some, Option.map_none, Option.bind_some, if_true, reduceIte, Nat.reduceAdd, Nat.reduceLT, Nat.reduceSub, Bool.not_true, Bool.not_false, Bool.false_eq_true, Bool.false_and, Bool.true_and, Bool.and_false, Bool.and_true, primD, intO, items, mt0, ceq, cne, eP_nilB, List.isEmpty_cons, eP_idx, Int.reduceNeg, w_kind_of hx h3, eK_raw, hk, nb, R.raw, bools_map, List.any_map, List.any_reverse, Function.comp_def, id]
theorem w_sign_in {m : Mk} : callN prog W (n + 1) 10 [.val (eM m)] st = .ok (eS (sgn m)) st := by
  rcases m with _ | ⟨_ | _, x, p⟩
  · rfl
  · have h : ((97 + x == 38) = false) := by simp; omega
    have e1 : eqD (.str [97 + x]) (.str [38]) = some false := by rw [eq_ss]; simp; omega
    have e0 : idxD st (.str [97 + x, pm p]) (.int 0) = some (.str [97 + x]) := rfl
    rw [call_def (d := f10) rfl rfl rfl]
    simp only [f10, v_con, v_var, v_peek, v_glob, v_tup, v_lst, v_cellL, v_bin, v_cmp, v_chain, v_and, v_or, v_not, v_ite, v_idx, v_slice, v_rev, v_call, v_prim, v_meth, v_neg, evEs, evAs, evA, evI, evT, evIt, evB_cons, evB_nil, s_ite, s_ret, s_set, s_expr, s_raise, s_freeze, s_setT, s_put, s_par, s_for, p_ok, b_ok, b_ra, t_ok, t_ra, l_ok, cm_ok, q_nx, q_ret, q_ra, c_t, c_f, tr_bl, f_ret, f_nx, f_ra, nx_some, varD, peekD, setO, List.getElem?_cons_zero, List.getElem?_cons_succ, List.cons_append, List.nil_append, List.append_nil, List.replicate, Nat.sub_self, List.set_cons_zero, List.set_cons_succ, List.length_cons, List.length_nil, Option.map_some, Option.map_none, Option.bind_some, if_true, reduceIte, Nat.reduceAdd, Nat.reduceLT, Nat.reduceSub, Bool.not_true, Bool.not_false, Bool.false_eq_true, Bool.false_and, Bool.true_and, Bool.and_false, Bool.and_true, primD, intO, items, eM, eMs, ceq, e0, e1, eS, eSs, sgn]
  · rfl
theorem w_opened {p : Pile} {x : Nat} (hx : x < r.ks.length) (h3 : r.ks.length ≤ 3) (hl : p.length ≤ 900) : callN prog W (n + 2) 12 [.val (eR r), .val (eP p), .val (eN x)] st = .ok (.tup [eP (opened r p x).1, .lst ((opened r p x).2.map eDd)]) st := by
  rw [call_def (d := f12) rfl rfl rfl]
  unfold Rdr.opened
  by_cases hv : r.kind x = .void
  · rw [if_pos hv]
    simp only [f12, v_con, v_var, v_peek, v_glob, v_tup, v_lst, v_cellL, v_bin, v_cmp, v_chain, v_and, v_or, v_not, v_ite, v_idx, v_slice, v_rev, v_call, v_prim, v_meth, v_neg, evEs, evAs, evA, evI, evT, evIt, evB_cons, evB_nil, s_ite, s_ret, s_set, s_expr, s_raise, s_freeze, s_setT, s_put, s_par, s_for, p_ok, b_ok, b_ra, t_ok, t_ra, l_ok, cm_ok, q_nx, q_ret, q_ra, c_t, c_f, tr_bl, f_ret, f_nx, f_ra, nx_some, varD, peekD, setO, List.getElem?_cons_zero, List.getElem?_cons_succ, List.cons_append, List.nil_append, List.append_nil, List.replicate, Nat.sub_self, List.set_cons_zero, List.set_cons_succ, List.length_cons, List.length_nil, Option.map_some, Option.map_none, Option.bind_some, if_true, reduceIte, Nat.reduceAdd, Nat.reduceLT, Nat.reduceSub, Bool.not_true, Bool.not_false, Bool.false_eq_true, Bool.false_and, Bool.true_and, Bool.and_false, Bool.and_true, intO, ceq, cne, cge, cgt, cle, clt, cin, cnin, nb, reduceCtorEq, decide_true, decide_false, mt0, mt1, mt2, mt3, ml0, ml1, ml2, ml3, Int.reduceNeg, setOs, if_false, bt_name, bt2, bt3, bt4, setOs, ml0, w_kind_of hx h3, ceq, eK_void, hv, decide_true, mt2, ml1, eDd, List.map_cons, List.map_nil]
  · rw [if_neg hv]
    by_cases hs : r.kind x = .self ∧ p.head? = some x
    · rw [if_pos hs]
      obtain ⟨q, rfl⟩ : ∃ q, p = x :: q := by
        cases p with
        | nil => simp at hs
        | cons y q => simp at hs; exact ⟨q, by rw [hs.2]⟩
      have hl : q.length + 1 ≤ 900 := by simpa using hl
      by_cases hd : r.d ≤ q.length
      · have hd' : ((r.d : Int) ≤ (q.length : Int)) := by omega
        simp only [f12, v_con, v_var, v_peek, v_glob, v_tup, v_lst, v_cellL, v_bin, v_cmp, v_chain, v_and, v_or, v_not, v_ite, v_idx, v_slice, v_rev, v_call, v_prim, v_meth, v_neg, evEs, evAs, evA, evI, evT, evIt, evB_cons, evB_nil, s_ite, s_ret, s_set, s_expr, s_raise, s_freeze, s_setT, s_put, s_par, s_for, p_ok, b_ok, b_ra, t_ok, t_ra, l_ok, cm_ok, q_nx, q_ret, q_ra, c_t, c_f, tr_bl, f_ret, f_nx, f_ra, nx_some, varD, peekD, setO, List.getElem?_cons_zero, List.getElem?_cons_succ, List.cons_append, List.nil_append, List.append_nil, List.replicate, Nat.sub_self, List.set_cons_zero, List.set_cons_succ, List.length_cons, List.length_nil, Option.map_some, Option.map_none, Option.bind_some, if_true, reduceIte, Nat.reduceAdd, Nat.reduceLT, Nat.reduceSub, Bool.not_true, Bool.not_false, Bool.false_eq_true, Bool.false_and, Bool.true_and, Bool.and_false, Bool.and_true, intO, ceq, cne, cge, cgt, cle, clt, cin, cnin, nb, reduceCtorEq, decide_true, decide_false, mt0, mt1, mt2, mt3, ml0, ml1, ml2, ml3, Int.reduceNeg, setOs, if_false, bt_name, bt2, bt3, bt4, setOs, ml0, w_kind_of hx h3, ceq, cne, cge, eK_void, eK_self, hv, hs.1, decide_true, decide_false, mt0, mt2, ml1, eP_nilB, List.isEmpty_cons, nb, eP_idx, eP_cut, Int.reduceNeg, eN_eq, eP_len, eR_2, hd', hd, List.tail_cons, eDd, List.map_cons, List.map_nil]
      · have hd' : ¬ ((r.d : Int) ≤ (q.length : Int)) := by omega
        simp only [f12, v_con, v_var, v_peek, v_glob, v_tup, v_lst, v_cellL, v_bin, v_cmp, v_chain, v_and, v_or, v_not, v_ite, v_idx, v_slice, v_rev, v_call, v_prim, v_meth, v_neg, evEs, evAs, evA, evI, evT, evIt, evB_cons, evB_nil, s_ite, s_ret, s_set, s_expr, s_raise, s_freeze, s_setT, s_put, s_par, s_for, p_ok, b_ok, b_ra, t_ok, t_ra, l_ok, cm_ok, q_nx, q_ret, q_ra, c_t, c_f, tr_bl, f_ret, f_nx, f_ra, nx_some, varD, peekD, setO, List.getElem?_cons_zero, List.getElem?_cons_succ, List.cons_append, List.nil_append, List.append_nil, List.replicate, Nat.sub_self, List.set_cons_zero, List.set_cons_succ, List.length_cons, List.length_nil, Option.map_some, Option.map_none, Option.bind_some, if_true, reduceIte, Nat.reduceAdd, Nat.reduceLT, Nat.reduceSub, Bool.not_true, Bool.not_false, Bool.false_eq_true, Bool.false_and, Bool.true_and, Bool.and_false, Bool.and_true, intO, ceq, cne, cge, cgt, cle, clt, cin, cnin, nb, reduceCtorEq, decide_true, decide_false, mt0, mt1, mt2, mt3, ml0, ml1, ml2, ml3, Int.reduceNeg, setOs, if_false, bt_name, bt2, bt3, bt4, setOs, ml0, w_kind_of hx h3, ceq, cne, cge, eK_void, eK_self, hv, hs.1, decide_true, decide_false, mt0, mt1, mt2, ml1, eP_nilB, List.isEmpty_cons, nb, eP_idx, eP_cut, Int.reduceNeg, eN_eq, eP_len, eR_2, hd', hd, if_false, List.tail_cons, eDd, List.map_cons, List.map_nil, eP_add (p := q) (x := x) (by omega), add_l' (xs := [D.tup [.str [99, 108, 111, 115, 101], eN x]]) (ys := [D.tup [.str [111, 112, 101, 110], eN x]]) (line_le' (b := 2) (by simp) (by omega))]
    · rw [if_neg hs]
      have hE : evE prog.globs (callN prog W (n + 1)) (.and (.cmp .eq (.var 3) (.con (.str [115, 101, 108, 102]))) (.and (.cmp .ne (.var 1) (.tup [])) (.cmp .eq (.idx (.var 1) (.neg (.con (.int 1)))) (.var 2)))) [.val (eR r), .val (eP p), .val (eN x), .val (eK (r.kind x)), .val (.lst [])] st = .ok (.bl false) st := by
        by_cases hk : r.kind x = .self
        · cases p with
          | nil => simp only [v_con, v_var, v_peek, v_glob, v_tup, v_lst, v_cellL, v_bin, v_cmp, v_chain, v_and, v_or, v_not, v_ite, v_idx, v_slice, v_rev, v_call, v_prim, v_meth, v_neg, evEs, evAs, evA, evI, evT, evIt, evB_cons, evB_nil, s_ite, s_ret, s_set, s_expr, s_raise, s_freeze, s_setT, s_put, s_par, s_for, p_ok, b_ok, b_ra, t_ok, t_ra, l_ok, cm_ok, q_nx, q_ret, q_ra, c_t, c_f, tr_bl, f_ret, f_nx, f_ra, nx_some, varD, peekD, setO, List.getElem?_cons_zero, List.getElem?_cons_succ, List.cons_append, List.nil_append, List.append_nil, List.replicate, Nat.sub_self, List.set_cons_zero, List.set_cons_succ, List.length_cons, List.length_nil, Option.map_some, Option.map_none, Option.bind_some, if_true, reduceIte, Nat.reduceAdd, Nat.reduceLT, Nat.reduceSub, Bool.not_true, Bool.not_false, Bool.false_eq_true, Bool.false_and, Bool.true_and, Bool.and_false, Bool.and_true, intO, ceq, cne, cge, cgt, cle, clt, cin, cnin, nb, reduceCtorEq, decide_true, decide_false, mt0, mt1, mt2, mt3, ml0, ml1, ml2, ml3, Int.reduceNeg, setOs, if_false, bt_name, bt2, bt3, bt4, ceq, cne, eK_self, hk, decide_true, mt0, eP_nilB, List.isEmpty_nil, nb]
          | cons y q =>
            have : ¬ (y = x) := fun z => hs ⟨hk, by simp [z]⟩
            simp only [v_con, v_var, v_peek, v_glob, v_tup, v_lst, v_cellL, v_bin, v_cmp, v_chain, v_and, v_or, v_not, v_ite, v_idx, v_slice, v_rev, v_call, v_prim, v_meth, v_neg, evEs, evAs, evA, evI, evT, evIt, evB_cons, evB_nil, s_ite, s_ret, s_set, s_expr, s_raise, s_freeze, s_setT, s_put, s_par, s_for, p_ok, b_ok, b_ra, t_ok, t_ra, l_ok, cm_ok, q_nx, q_ret, q_ra, c_t, c_f, tr_bl, f_ret, f_nx, f_ra, nx_some, varD, peekD, setO, List.getElem?_cons_zero, List.getElem?_cons_succ, List.cons_append, List.nil_append, List.append_nil, List.replicate, Nat.sub_self, List.set_cons_zero, List.set_cons_succ, List.length_cons, List.length_nil, Option.map_some, Option.map_none, Option.bind_some, if_true, reduceIte, Nat.reduceAdd, Nat.reduceLT, Nat.reduceSub, Bool.not_true, Bool.not_false, Bool.false_eq_true, Bool.false_and, Bool.true_and, Bool.and_false, Bool.and_true, intO, ceq, cne, cge, cgt, cle, clt, cin, cnin, nb, reduceCtorEq, decide_true, decide_false, mt0, mt1, mt2, mt3, ml0, ml1, ml2, ml3, Int.reduceNeg, setOs, if_false, bt_name, bt2, bt3, bt4, ceq, cne, eK_self, hk, decide_true, mt0, eP_nilB, List.isEmpty_cons, nb, eP_idx, Int.reduceNeg, eN_eq, this, decide_false]
        · simp only [v_con, v_var, v_peek, v_glob, v_tup, v_lst, v_cellL, v_bin, v_cmp, v_chain, v_and, v_or, v_not, v_ite, v_idx, v_slice, v_rev, v_call, v_prim, v_meth, v_neg, evEs, evAs, evA, evI, evT, evIt, evB_cons, evB_nil, s_ite, s_ret, s_set, s_expr, s_raise, s_freeze, s_setT, s_put, s_par, s_for, p_ok, b_ok, b_ra, t_ok, t_ra, l_ok, cm_ok, q_nx, q_ret, q_ra, c_t, c_f, tr_bl, f_ret, f_nx, f_ra, nx_some, varD, peekD, setO, List.getElem?_cons_zero, List.getElem?_cons_succ, List.cons_append, List.nil_append, List.append_nil, List.replicate, Nat.sub_self, List.set_cons_zero, List.set_cons_succ, List.length_cons, List.length_nil, Option.map_some, Option.map_none, Option.bind_some, if_true, reduceIte, Nat.reduceAdd, Nat.reduceLT, Nat.reduceSub, Bool.not_true, Bool.not_false, Bool.false_eq_true, Bool.false_and, Bool.true_and, Bool.and_false, Bool.and_true, intO, ceq, cne, cge, cgt, cle, clt, cin, cnin, nb, reduceCtorEq, decide_true, decide_false, mt0, mt1, mt2, mt3, ml0, ml1, ml2, ml3, Int.reduceNeg, setOs, if_false, bt_name, bt2, bt3, bt4, ceq, eK_self, hk, decide_false]
      by_cases hd : r.d ≤ p.length
      · have hd' : ((r.d : Int) ≤ (p.length : Int)) := by omega
        simp only [f12, hE, v_con, v_var, v_peek, v_glob, v_tup, v_lst, v_cellL, v_bin, v_cmp, v_chain, v_and, v_or, v_not, v_ite, v_idx, v_slice, v_rev, v_call, v_prim, v_meth, v_neg, evEs, evAs, evA, evI, evT, evIt, evB_cons, evB_nil, s_ite, s_ret, s_set, s_expr, s_raise, s_freeze, s_setT, s_put, s_par, s_for, p_ok, b_ok, b_ra, t_ok, t_ra, l_ok, cm_ok, q_nx, q_ret, q_ra, c_t, c_f, tr_bl, f_ret, f_nx, f_ra, nx_some, varD, peekD, setO, List.getElem?_cons_zero, List.getElem?_cons_succ, List.cons_append, List.nil_append, List.append_nil, List.replicate, Nat.sub_self, List.set_cons_zero, List.set_cons_succ, List.length_cons, List.length_nil, Option.map_some, Option.map_none, Option.bind_some, if_true, reduceIte, Nat.reduceAdd, Nat.reduceLT, Nat.reduceSub, Bool.not_true, Bool.not_false, Bool.false_eq_true, Bool.false_and, Bool.true_and, Bool.and_false, Bool.and_true, intO, ceq, cne, cge, cgt, cle, clt, cin, cnin, nb, reduceCtorEq, decide_true, decide_false, mt0, mt1, mt2, mt3, ml0, ml1, ml2, ml3, Int.reduceNeg, setOs, if_false, bt_name, bt2, bt3, bt4, setOs, ml0, w_kind_of hx h3, ceq, cne, cge, eK_void, hv, decide_true, decide_false, mt0, mt2, ml1, Int.reduceNeg, eP_len, eR_2, hd', hd, eDd, List.map_cons, List.map_nil]
      · have hd' : ¬ ((r.d : Int) ≤ (p.length : Int)) := by omega
        simp only [f12, hE, v_con, v_var, v_peek, v_glob, v_tup, v_lst, v_cellL, v_bin, v_cmp, v_chain, v_and, v_or, v_not, v_ite, v_idx, v_slice, v_rev, v_call, v_prim, v_meth, v_neg, evEs, evAs, evA, evI, evT, evIt, evB_cons, evB_nil, s_ite, s_ret, s_set, s_expr, s_raise, s_freeze, s_setT, s_put, s_par, s_for, p_ok, b_ok, b_ra, t_ok, t_ra, l_ok, cm_ok, q_nx, q_ret, q_ra, c_t, c_f, tr_bl, f_ret, f_nx, f_ra, nx_some, varD, peekD, setO, List.getElem?_cons_zero, List.getElem?_cons_succ, List.cons_append, List.nil_append, List.append_nil, List.replicate, Nat.sub_self, List.set_cons_zero, List.set_cons_succ, List.length_cons, List.length_nil, Option.map_some, Option.map_none, Option.bind_some, if_true, reduceIte, Nat.reduceAdd, Nat.reduceLT, Nat.reduceSub, Bool.not_true, Bool.not_false, Bool.false_eq_true, Bool.false_and, Bool.true_and, Bool.and_false, Bool.and_true, intO, ceq, cne, cge, cgt, cle, clt, cin, cnin, nb, reduceCtorEq, decide_true, decide_false, mt0, mt1, mt2, mt3, ml0, ml1, ml2, ml3, Int.reduceNeg, setOs, if_false, bt_name, bt2, bt3, bt4, setOs, ml0, w_kind_of hx h3, ceq, cne, cge, eK_void, hv, decide_true, decide_false, mt0, mt1, mt2, ml1, Int.reduceNeg, eP_len, eR_2, hd', hd, if_false, eDd, List.map_cons, List.map_nil, eP_add (p := p) (x := x) (by omega), add_l' (xs := []) (ys := [D.tup [.str [111, 112, 101, 110], eN x]]) (line_le' (b := 2) (by simp) (by omega))]
theorem w_closed {p : Pile} {x : Nat} (hx : x < r.ks.length) (h3 : r.ks.length ≤ 3) (hl : p.length ≤ 900) : callN prog W (n + 2) 13 [.val (eR r), .val (eP p), .val (eN x)] st = .ok (.tup [eP (closed r p x).1, .lst ((closed r p x).2.map eDd)]) st := by
  have key : ∀ (j : Nat), j ≤ p.length → evB prog.globs (callN prog W (n + 1)) W [(.ret (.tup [(.slice (.var 1) none (some (.bin .sub (.prim .len (.var 1)) (.var 3)))), f13c0]))] [.val (eR r), .val (eP p), .val (eN x), .val (.int j), .non] st = .ret (.tup [eP (p.drop j), .lst ((p.take j).map fun x => eDd (.cl x))]) st := by
    intro j hj
    have hE : evE prog.globs (callN prog W (n + 1)) f13c0 [.val (eR r), .val (eP p), .val (eN x), .val (.int j), .non] st = .ok (.lst (((p.take j).map eN).map fun y => .tup [.str [99, 108, 111, 115, 101], y])) st := by
      refine e_map _ (v := .tup ((p.take j).map eN)) ?_ rfl (fun y hy => ?_) (by simp) (by simp; exact line_le' (b := 1000) (by omega) (by omega))
      · simp only [v_con, v_var, v_peek, v_glob, v_tup, v_lst, v_cellL, v_bin, v_cmp, v_chain, v_and, v_or, v_not, v_ite, v_idx, v_slice, v_rev, v_call, v_prim, v_meth, v_neg, evEs, evAs, evA, evI, evT, evIt, evB_cons, evB_nil, s_ite, s_ret, s_set, s_expr, s_raise, s_freeze, s_setT, s_put, s_par, s_for, p_ok, b_ok, b_ra, t_ok, t_ra, l_ok, cm_ok, q_nx, q_ret, q_ra, c_t, c_f, tr_bl, f_ret, f_nx, f_ra, nx_some, varD, peekD, setO, List.getElem?_cons_zero, List.getElem?_cons_succ, List.cons_append, List.nil_append, List.append_nil, List.replicate, Nat.sub_self, List.set_cons_zero, List.set_cons_succ, List.length_cons, List.length_nil, Option.map_some, Option.map_none, Option.bind_some, if_true, reduceIte, Nat.reduceAdd, Nat.reduceLT, Nat.reduceSub, Bool.not_true, Bool.not_false, Bool.false_eq_true, Bool.false_and, Bool.true_and, Bool.and_false, Bool.and_true, intO, ceq, cne, cge, cgt, cle, clt, cin, cnin, nb, reduceCtorEq, decide_true, decide_false, mt0, mt1, mt2, mt3, ml0, ml1, ml2, ml3, Int.reduceNeg, setOs, if_false, bt_name, bt2, bt3, bt4, eP_rev, sl_t', cut_head, List.map_take]
      · simp only [v_con, v_var, v_peek, v_glob, v_tup, v_lst, v_cellL, v_bin, v_cmp, v_chain, v_and, v_or, v_not, v_ite, v_idx, v_slice, v_rev, v_call, v_prim, v_meth, v_neg, evEs, evAs, evA, evI, evT, evIt, evB_cons, evB_nil, s_ite, s_ret, s_set, s_expr, s_raise, s_freeze, s_setT, s_put, s_par, s_for, p_ok, b_ok, b_ra, t_ok, t_ra, l_ok, cm_ok, q_nx, q_ret, q_ra, c_t, c_f, tr_bl, f_ret, f_nx, f_ra, nx_some, varD, peekD, setO, List.getElem?_cons_zero, List.getElem?_cons_succ, List.cons_append, List.nil_append, List.append_nil, List.replicate, Nat.sub_self, List.set_cons_zero, List.set_cons_succ, List.length_cons, List.length_nil, Option.map_some, Option.map_none, Option.bind_some, if_true, reduceIte, Nat.reduceAdd, Nat.reduceLT, Nat.reduceSub, Bool.not_true, Bool.not_false, Bool.false_eq_true, Bool.false_and, Bool.true_and, Bool.and_false, Bool.and_true, intO, ceq, cne, cge, cgt, cle, clt, cin, cnin, nb, reduceCtorEq, decide_true, decide_false, mt0, mt1, mt2, mt3, ml0, ml1, ml2, ml3, Int.reduceNeg, setOs, if_false, bt_name, bt2, bt3, bt4, mt2]
    have e3 : sliceD (eP p) none (some ((p.length : Int) - (j : Int))) = some (eP (p.drop j)) := by
      rw [eP, sl_t', cut_pile hj]; rfl
    rw [List.map_map] at hE
    simp only [hE, v_con, v_var, v_peek, v_glob, v_tup, v_lst, v_cellL, v_bin, v_cmp, v_chain, v_and, v_or, v_not, v_ite, v_idx, v_slice, v_rev, v_call, v_prim, v_meth, v_neg, evEs, evAs, evA, evI, evT, evIt, evB_cons, evB_nil, s_ite, s_ret, s_set, s_expr, s_raise, s_freeze, s_setT, s_put, s_par, s_for, p_ok, b_ok, b_ra, t_ok, t_ra, l_ok, cm_ok, q_nx, q_ret, q_ra, c_t, c_f, tr_bl, f_ret, f_nx, f_ra, nx_some, varD, peekD, setO, List.getElem?_cons_zero, List.getElem?_cons_succ, List.cons_append, List.nil_append, List.append_nil, List.replicate, Nat.sub_self, List.set_cons_zero, List.set_cons_succ, List.length_cons, List.length_nil, Option.map_some, Option.map_none, Option.bind_some, if_true, reduceIte, Nat.reduceAdd, Nat.reduceLT, Nat.reduceSub, Bool.not_true, Bool.not_false, Bool.false_eq_true, Bool.false_and, Bool.true_and, Bool.and_false, Bool.and_true, intO, ceq, cne, cge, cgt, cle, clt, cin, cnin, nb, reduceCtorEq, decide_true, decide_false, mt0, mt1, mt2, mt3, ml0, ml1, ml2, ml3, Int.reduceNeg, setOs, if_false, bt_name, bt2, bt3, bt4, eP_len, sub_i', e3, mt2]
    rfl
  have hb : f13.body = .stmts [(.set 3 false (.con (.int 0))), (.ite (.or (.cmp .eq (.call 8 [(.e (.var 0)), (.e (.var 2))]) (.con (.str [118, 111, 105, 100]))) (.cmp .eq (.var 1) (.tup []))) [(.set 3 false (.con (.int 0)))] [(.ite (.or (.cmp .eq (.idx (.var 1) (.neg (.con (.int 1)))) (.var 2)) (.cmp .eq (.idx (.var 0) (.con (.int 1))) (.con (.str [116, 111, 112])))) [(.set 3 false (.con (.int 1)))] [(.ite (.and (.cmp .eq (.idx (.var 0) (.con (.int 1))) (.con (.str [115, 101, 97, 114, 99, 104]))) (.cmp .isin (.var 2) (.var 1))) [(.set 3 false (.bin .add (.meth .tindex (.rev (.var 1)) [(.var 2)]) (.con (.int 1))))] [])])]), (.ret (.tup [(.slice (.var 1) none (some (.bin .sub (.prim .len (.var 1)) (.var 3)))), f13c0]))] := rfl
  have fin : ∀ (ρ : Env), ρ = [.val (eR r), .val (eP p), .val (eN x), .val (.int (many r p x)), .non] → SRes.fin (evB prog.globs (callN prog W (n + 1)) W [(.ret (.tup [(.slice (.var 1) none (some (.bin .sub (.prim .len (.var 1)) (.var 3)))), f13c0]))] ρ st) = .ok (.tup [eP (closed r p x).1, .lst ((closed r p x).2.map eDd)]) st := by
    rintro ρ rfl
    rw [key _ (many_le r p x), f_ret, closed, List.map_map]
    rfl
  rw [call_def (d := f13) rfl hb rfl]
  show SRes.fin (evB prog.globs (callN prog W (n + 1)) W _ [.val (eR r), .val (eP p), .val (eN x), .non, .non] st) = _
  rw [evB_cons, s_set, v_con, t_ok, set_v (by simp), nx_some, q_nx, evB_cons, s_ite]
  by_cases hv : r.kind x = .void
  · have hm : many r p x = 0 := by simp [many, hv]
    rw [hm] at fin
    refine Eq.trans (congrArg SRes.fin ?_) (fin _ rfl)
    simp only [v_con, v_var, v_peek, v_glob, v_tup, v_lst, v_cellL, v_bin, v_cmp, v_chain, v_and, v_or, v_not, v_ite, v_idx, v_slice, v_rev, v_call, v_prim, v_meth, v_neg, evEs, evAs, evA, evI, evT, evIt, evB_cons, evB_nil, s_ite, s_ret, s_set, s_expr, s_raise, s_freeze, s_setT, s_put, s_par, s_for, p_ok, b_ok, b_ra, t_ok, t_ra, l_ok, cm_ok, q_nx, q_ret, q_ra, c_t, c_f, tr_bl, f_ret, f_nx, f_ra, nx_some, varD, peekD, setO, List.getElem?_cons_zero, List.getElem?_cons_succ, List.cons_append, List.nil_append, List.append_nil, List.replicate, Nat.sub_self, List.set_cons_zero, List.set_cons_succ, List.length_cons, List.length_nil, Option.map_some, Option.map_none, Option.bind_some, if_true, reduceIte, Nat.reduceAdd, Nat.reduceLT, Nat.reduceSub, Bool.not_true, Bool.not_false, Bool.false_eq_true, Bool.false_and, Bool.true_and, Bool.and_false, Bool.and_true, intO, ceq, cne, cge, cgt, cle, clt, cin, cnin, nb, reduceCtorEq, decide_true, decide_false, mt0, mt1, mt2, mt3, ml0, ml1, ml2, ml3, Int.reduceNeg, setOs, if_false, bt_name, bt2, bt3, bt4, w_kind_of hx h3, ceq, eK_void, hv, decide_true]
    rfl
  · cases p with
    | nil =>
      have hm : many r [] x = 0 := by simp [many]
      rw [hm] at fin
      refine Eq.trans (congrArg SRes.fin ?_) (fin _ rfl)
      simp only [v_con, v_var, v_peek, v_glob, v_tup, v_lst, v_cellL, v_bin, v_cmp, v_chain, v_and, v_or, v_not, v_ite, v_idx, v_slice, v_rev, v_call, v_prim, v_meth, v_neg, evEs, evAs, evA, evI, evT, evIt, evB_cons, evB_nil, s_ite, s_ret, s_set, s_expr, s_raise, s_freeze, s_setT, s_put, s_par, s_for, p_ok, b_ok, b_ra, t_ok, t_ra, l_ok, cm_ok, q_nx, q_ret, q_ra, c_t, c_f, tr_bl, f_ret, f_nx, f_ra, nx_some, varD, peekD, setO, List.getElem?_cons_zero, List.getElem?_cons_succ, List.cons_append, List.nil_append, List.append_nil, List.replicate, Nat.sub_self, List.set_cons_zero, List.set_cons_succ, List.length_cons, List.length_nil, Option.map_some, Option.map_none, Option.bind_some, if_true, reduceIte, Nat.reduceAdd, Nat.reduceLT, Nat.reduceSub, Bool.not_true, Bool.not_false, Bool.false_eq_true, Bool.false_and, Bool.true_and, Bool.and_false, Bool.and_true, intO, ceq, cne, cge, cgt, cle, clt, cin, cnin, nb, reduceCtorEq, decide_true, decide_false, mt0, mt1, mt2, mt3, ml0, ml1, ml2, ml3, Int.reduceNeg, setOs, if_false, bt_name, bt2, bt3, bt4, w_kind_of hx h3, ceq, eK_void, hv, decide_false, mt0, eP_nilB, List.isEmpty_nil]
      rfl
    | cons y q =>
      by_cases h1 : y = x ∨ r.h = .top
      · have hm : many r (y :: q) x = 1 := by simp [many, hv, h1]
        rw [hm] at fin
        refine Eq.trans (congrArg SRes.fin ?_) (fin _ rfl)
        by_cases hy : y = x
        · simp only [v_con, v_var, v_peek, v_glob, v_tup, v_lst, v_cellL, v_bin, v_cmp, v_chain, v_and, v_or, v_not, v_ite, v_idx, v_slice, v_rev, v_call, v_prim, v_meth, v_neg, evEs, evAs, evA, evI, evT, evIt, evB_cons, evB_nil, s_ite, s_ret, s_set, s_expr, s_raise, s_freeze, s_setT, s_put, s_par, s_for, p_ok, b_ok, b_ra, t_ok, t_ra, l_ok, cm_ok, q_nx, q_ret, q_ra, c_t, c_f, tr_bl, f_ret, f_nx, f_ra, nx_some, varD, peekD, setO, List.getElem?_cons_zero, List.getElem?_cons_succ, List.cons_append, List.nil_append, List.append_nil, List.replicate, Nat.sub_self, List.set_cons_zero, List.set_cons_succ, List.length_cons, List.length_nil, Option.map_some, Option.map_none, Option.bind_some, if_true, reduceIte, Nat.reduceAdd, Nat.reduceLT, Nat.reduceSub, Bool.not_true, Bool.not_false, Bool.false_eq_true, Bool.false_and, Bool.true_and, Bool.and_false, Bool.and_true, intO, ceq, cne, cge, cgt, cle, clt, cin, cnin, nb, reduceCtorEq, decide_true, decide_false, mt0, mt1, mt2, mt3, ml0, ml1, ml2, ml3, Int.reduceNeg, setOs, if_false, bt_name, bt2, bt3, bt4, w_kind_of hx h3, ceq, eK_void, hv, decide_false, mt0, eP_nilB, List.isEmpty_cons, eP_idx, Int.reduceNeg, eN_eq, hy, decide_true]
          rfl
        · have ht : r.h = .top := h1.resolve_left hy
          simp only [v_con, v_var, v_peek, v_glob, v_tup, v_lst, v_cellL, v_bin, v_cmp, v_chain, v_and, v_or, v_not, v_ite, v_idx, v_slice, v_rev, v_call, v_prim, v_meth, v_neg, evEs, evAs, evA, evI, evT, evIt, evB_cons, evB_nil, s_ite, s_ret, s_set, s_expr, s_raise, s_freeze, s_setT, s_put, s_par, s_for, p_ok, b_ok, b_ra, t_ok, t_ra, l_ok, cm_ok, q_nx, q_ret, q_ra, c_t, c_f, tr_bl, f_ret, f_nx, f_ra, nx_some, varD, peekD, setO, List.getElem?_cons_zero, List.getElem?_cons_succ, List.cons_append, List.nil_append, List.append_nil, List.replicate, Nat.sub_self, List.set_cons_zero, List.set_cons_succ, List.length_cons, List.length_nil, Option.map_some, Option.map_none, Option.bind_some, if_true, reduceIte, Nat.reduceAdd, Nat.reduceLT, Nat.reduceSub, Bool.not_true, Bool.not_false, Bool.false_eq_true, Bool.false_and, Bool.true_and, Bool.and_false, Bool.and_true, intO, ceq, cne, cge, cgt, cle, clt, cin, cnin, nb, reduceCtorEq, decide_true, decide_false, mt0, mt1, mt2, mt3, ml0, ml1, ml2, ml3, Int.reduceNeg, setOs, if_false, bt_name, bt2, bt3, bt4, w_kind_of hx h3, ceq, eK_void, hv, decide_false, mt0, eP_nilB, List.isEmpty_cons, eP_idx, Int.reduceNeg, eN_eq, hy, eR_1, eH_top, ht, decide_true]
          rfl
      · have hy : ¬ y = x := fun z => h1 (.inl z)
        have ht : ¬ r.h = .top := fun z => h1 (.inr z)
        by_cases h2 : r.h = .search ∧ x ∈ y :: q
        · have hm : many r (y :: q) x = (y :: q).idxOf x + 1 := by simp [many, hv, hy, ht, h2.1, (by simpa using h2.2 : x = y ∨ x ∈ q)]
          rw [hm] at fin
          refine Eq.trans (congrArg SRes.fin ?_) (fin _ rfl)
          simp only [v_con, v_var, v_peek, v_glob, v_tup, v_lst, v_cellL, v_bin, v_cmp, v_chain, v_and, v_or, v_not, v_ite, v_idx, v_slice, v_rev, v_call, v_prim, v_meth, v_neg, evEs, evAs, evA, evI, evT, evIt, evB_cons, evB_nil, s_ite, s_ret, s_set, s_expr, s_raise, s_freeze, s_setT, s_put, s_par, s_for, p_ok, b_ok, b_ra, t_ok, t_ra, l_ok, cm_ok, q_nx, q_ret, q_ra, c_t, c_f, tr_bl, f_ret, f_nx, f_ra, nx_some, varD, peekD, setO, List.getElem?_cons_zero, List.getElem?_cons_succ, List.cons_append, List.nil_append, List.append_nil, List.replicate, Nat.sub_self, List.set_cons_zero, List.set_cons_succ, List.length_cons, List.length_nil, Option.map_some, Option.map_none, Option.bind_some, if_true, reduceIte, Nat.reduceAdd, Nat.reduceLT, Nat.reduceSub, Bool.not_true, Bool.not_false, Bool.false_eq_true, Bool.false_and, Bool.true_and, Bool.and_false, Bool.and_true, intO, ceq, cne, cge, cgt, cle, clt, cin, cnin, nb, reduceCtorEq, decide_true, decide_false, mt0, mt1, mt2, mt3, ml0, ml1, ml2, ml3, Int.reduceNeg, setOs, if_false, bt_name, bt2, bt3, bt4, w_kind_of hx h3, ceq, cin, eK_void, hv, decide_false, mt0, eP_nilB, List.isEmpty_cons, eP_idx, Int.reduceNeg, eN_eq, hy, eR_1, eH_top, ht, eH_search, h2.1, decide_true, in_pile, h2.2, eP_rev, meth_tix, tix h2.2, add_i']
          rfl
        · have hm : many r (y :: q) x = 0 := by
            unfold many
            rw [if_neg (by simp [hv]), if_neg (by simpa using h1), if_neg h2]
          rw [hm] at fin
          refine Eq.trans (congrArg SRes.fin ?_) (fin _ rfl)
          by_cases hs : r.h = .search
          · have hi : ¬ x ∈ y :: q := fun z => h2 ⟨hs, z⟩
            simp only [v_con, v_var, v_peek, v_glob, v_tup, v_lst, v_cellL, v_bin, v_cmp, v_chain, v_and, v_or, v_not, v_ite, v_idx, v_slice, v_rev, v_call, v_prim, v_meth, v_neg, evEs, evAs, evA, evI, evT, evIt, evB_cons, evB_nil, s_ite, s_ret, s_set, s_expr, s_raise, s_freeze, s_setT, s_put, s_par, s_for, p_ok, b_ok, b_ra, t_ok, t_ra, l_ok, cm_ok, q_nx, q_ret, q_ra, c_t, c_f, tr_bl, f_ret, f_nx, f_ra, nx_some, varD, peekD, setO, List.getElem?_cons_zero, List.getElem?_cons_succ, List.cons_append, List.nil_append, List.append_nil, List.replicate, Nat.sub_self, List.set_cons_zero, List.set_cons_succ, List.length_cons, List.length_nil, Option.map_some, Option.map_none, Option.bind_some, if_true, reduceIte, Nat.reduceAdd, Nat.reduceLT, Nat.reduceSub, Bool.not_true, Bool.not_false, Bool.false_eq_true, Bool.false_and, Bool.true_and, Bool.and_false, Bool.and_true, intO, ceq, cne, cge, cgt, cle, clt, cin, cnin, nb, reduceCtorEq, decide_true, decide_false, mt0, mt1, mt2, mt3, ml0, ml1, ml2, ml3, Int.reduceNeg, setOs, if_false, bt_name, bt2, bt3, bt4, w_kind_of hx h3, ceq, cin, eK_void, hv, decide_false, mt0, eP_nilB, List.isEmpty_cons, eP_idx, Int.reduceNeg, eN_eq, hy, eR_1, eH_top, ht, eH_search, hs, decide_true, in_pile, hi]
            rfl
          · simp only [v_con, v_var, v_peek, v_glob, v_tup, v_lst, v_cellL, v_bin, v_cmp, v_chain, v_and, v_or, v_not, v_ite, v_idx, v_slice, v_rev, v_call, v_prim, v_meth, v_neg, evEs, evAs, evA, evI, evT, evIt, evB_cons, evB_nil, s_ite, s_ret, s_set, s_expr, s_raise, s_freeze, s_setT, s_put, s_par, s_for, p_ok, b_ok, b_ra, t_ok, t_ra, l_ok, cm_ok, q_nx, q_ret, q_ra, c_t, c_f, tr_bl, f_ret, f_nx, f_ra, nx_some, varD, peekD, setO, List.getElem?_cons_zero, List.getElem?_cons_succ, List.cons_append, List.nil_append, List.append_nil, List.replicate, Nat.sub_self, List.set_cons_zero, List.set_cons_succ, List.length_cons, List.length_nil, Option.map_some, Option.map_none, Option.bind_some, if_true, reduceIte, Nat.reduceAdd, Nat.reduceLT, Nat.reduceSub, Bool.not_true, Bool.not_false, Bool.false_eq_true, Bool.false_and, Bool.true_and, Bool.and_false, Bool.and_true, intO, ceq, cne, cge, cgt, cle, clt, cin, cnin, nb, reduceCtorEq, decide_true, decide_false, mt0, mt1, mt2, mt3, ml0, ml1, ml2, ml3, Int.reduceNeg, setOs, if_false, bt_name, bt2, bt3, bt4, w_kind_of hx h3, ceq, cin, eK_void, hv, decide_false, mt0, eP_nilB, List.isEmpty_cons, eP_idx, Int.reduceNeg, eN_eq, hy, eR_1, eH_top, ht, eH_search, hs]
            rfl
theorem w_step {p : Pile} {m : Mk} (hp : POk r.ks.length p) (hm : MOk r.ks.length m) (h3 : r.ks.length ≤ 3) (hl : p.length ≤ 900) : callN prog W (n + 3) 11 [.val (eR r), .val (eP p), .val (eM m)] st = .ok (.tup [eP (step r p m).1, .lst ((step r p m).2.map eDd)]) st := by
  rw [call_def (d := f11) rfl rfl rfl]
  unfold Rdr.step
  cases hr : r.raw p with
  | true =>
    rw [if_pos rfl]
    cases p with
    | nil => simp [R.raw] at hr
    | cons x q =>
      dsimp only
      by_cases hc : m = .m false x false
      · rw [if_pos hc]
        simp only [f11, v_con, v_var, v_peek, v_glob, v_tup, v_lst, v_cellL, v_bin, v_cmp, v_chain, v_and, v_or, v_not, v_ite, v_idx, v_slice, v_rev, v_call, v_prim, v_meth, v_neg, evEs, evAs, evA, evI, evT, evIt, evB_cons, evB_nil, s_ite, s_ret, s_set, s_expr, s_raise, s_freeze, s_setT, s_put, s_par, s_for, p_ok, b_ok, b_ra, t_ok, t_ra, l_ok, cm_ok, q_nx, q_ret, q_ra, c_t, c_f, tr_bl, f_ret, f_nx, f_ra, nx_some, varD, peekD, setO, List.getElem?_cons_zero, List.getElem?_cons_succ, List.cons_append, List.nil_append, List.append_nil, List.replicate, Nat.sub_self, List.set_cons_zero, List.set_cons_succ, List.length_cons, List.length_nil, Option.map_some, Option.map_none, Option.bind_some, if_true, reduceIte, Nat.reduceAdd, Nat.reduceLT, Nat.reduceSub, Bool.not_true, Bool.not_false, Bool.false_eq_true, Bool.false_and, Bool.true_and, Bool.and_false, Bool.and_true, intO, ceq, cne, cge, cgt, cle, clt, cin, cnin, nb, reduceCtorEq, decide_true, decide_false, mt0, mt1, mt2, mt3, ml0, ml1, ml2, ml3, Int.reduceNeg, setOs, if_false, bt_name, bt2, bt3, bt4, w_reads_raw hp h3 (by omega), hr, eP_idx, eN_add, eM_close, hc, eP_cut, List.map_cons, List.map_nil, eDd]
      · rw [if_neg hc]
        simp only [f11, v_con, v_var, v_peek, v_glob, v_tup, v_lst, v_cellL, v_bin, v_cmp, v_chain, v_and, v_or, v_not, v_ite, v_idx, v_slice, v_rev, v_call, v_prim, v_meth, v_neg, evEs, evAs, evA, evI, evT, evIt, evB_cons, evB_nil, s_ite, s_ret, s_set, s_expr, s_raise, s_freeze, s_setT, s_put, s_par, s_for, p_ok, b_ok, b_ra, t_ok, t_ra, l_ok, cm_ok, q_nx, q_ret, q_ra, c_t, c_f, tr_bl, f_ret, f_nx, f_ra, nx_some, varD, peekD, setO, List.getElem?_cons_zero, List.getElem?_cons_succ, List.cons_append, List.nil_append, List.append_nil, List.replicate, Nat.sub_self, List.set_cons_zero, List.set_cons_succ, List.length_cons, List.length_nil, Option.map_some, Option.map_none, Option.bind_some, if_true, reduceIte, Nat.reduceAdd, Nat.reduceLT, Nat.reduceSub, Bool.not_true, Bool.not_false, Bool.false_eq_true, Bool.false_and, Bool.true_and, Bool.and_false, Bool.and_true, intO, ceq, cne, cge, cgt, cle, clt, cin, cnin, nb, reduceCtorEq, decide_true, decide_false, mt0, mt1, mt2, mt3, ml0, ml1, ml2, ml3, Int.reduceNeg, setOs, if_false, bt_name, bt2, bt3, bt4, w_reads_raw hp h3 (by omega), hr, eP_idx, eN_add, eM_close, hc, w_sign_in, List.map_cons, List.map_nil, eDd]
  | false =>
    rw [if_neg (by simp)]
    rcases m with _ | ⟨_ | _, x, _ | _⟩
    · simp only [f11, v_con, v_var, v_peek, v_glob, v_tup, v_lst, v_cellL, v_bin, v_cmp, v_chain, v_and, v_or, v_not, v_ite, v_idx, v_slice, v_rev, v_call, v_prim, v_meth, v_neg, evEs, evAs, evA, evI, evT, evIt, evB_cons, evB_nil, s_ite, s_ret, s_set, s_expr, s_raise, s_freeze, s_setT, s_put, s_par, s_for, p_ok, b_ok, b_ra, t_ok, t_ra, l_ok, cm_ok, q_nx, q_ret, q_ra, c_t, c_f, tr_bl, f_ret, f_nx, f_ra, nx_some, varD, peekD, setO, List.getElem?_cons_zero, List.getElem?_cons_succ, List.cons_append, List.nil_append, List.append_nil, List.replicate, Nat.sub_self, List.set_cons_zero, List.set_cons_succ, List.length_cons, List.length_nil, Option.map_some, Option.map_none, Option.bind_some, if_true, reduceIte, Nat.reduceAdd, Nat.reduceLT, Nat.reduceSub, Bool.not_true, Bool.not_false, Bool.false_eq_true, Bool.false_and, Bool.true_and, Bool.and_false, Bool.and_true, intO, ceq, cne, cge, cgt, cle, clt, cin, cnin, nb, reduceCtorEq, decide_true, decide_false, mt0, mt1, mt2, mt3, ml0, ml1, ml2, ml3, Int.reduceNeg, setOs, if_false, bt_name, bt2, bt3, bt4, w_reads_raw hp h3 (by omega), hr, eM_dot, w_sign_in, List.map_cons, List.map_nil, eDd, sgn]
    · simp only [f11, v_con, v_var, v_peek, v_glob, v_tup, v_lst, v_cellL, v_bin, v_cmp, v_chain, v_and, v_or, v_not, v_ite, v_idx, v_slice, v_rev, v_call, v_prim, v_meth, v_neg, evEs, evAs, evA, evI, evT, evIt, evB_cons, evB_nil, s_ite, s_ret, s_set, s_expr, s_raise, s_freeze, s_setT, s_put, s_par, s_for, p_ok, b_ok, b_ra, t_ok, t_ra, l_ok, cm_ok, q_nx, q_ret, q_ra, c_t, c_f, tr_bl, f_ret, f_nx, f_ra, nx_some, varD, peekD, setO, List.getElem?_cons_zero, List.getElem?_cons_succ, List.cons_append, List.nil_append, List.append_nil, List.replicate, Nat.sub_self, List.set_cons_zero, List.set_cons_succ, List.length_cons, List.length_nil, Option.map_some, Option.map_none, Option.bind_some, if_true, reduceIte, Nat.reduceAdd, Nat.reduceLT, Nat.reduceSub, Bool.not_true, Bool.not_false, Bool.false_eq_true, Bool.false_and, Bool.true_and, Bool.and_false, Bool.and_true, intO, ceq, cne, cge, cgt, cle, clt, cin, cnin, nb, reduceCtorEq, decide_true, decide_false, mt0, mt1, mt2, mt3, ml0, ml1, ml2, ml3, Int.reduceNeg, setOs, if_false, bt_name, bt2, bt3, bt4, w_reads_raw hp h3 (by omega), hr, eM_dot, eM_0f, eM_1f, eN_amp, pm_plus, w_closed hm h3 hl]
    · simp only [f11, v_con, v_var, v_peek, v_glob, v_tup, v_lst, v_cellL, v_bin, v_cmp, v_chain, v_and, v_or, v_not, v_ite, v_idx, v_slice, v_rev, v_call, v_prim, v_meth, v_neg, evEs, evAs, evA, evI, evT, evIt, evB_cons, evB_nil, s_ite, s_ret, s_set, s_expr, s_raise, s_freeze, s_setT, s_put, s_par, s_for, p_ok, b_ok, b_ra, t_ok, t_ra, l_ok, cm_ok, q_nx, q_ret, q_ra, c_t, c_f, tr_bl, f_ret, f_nx, f_ra, nx_some, varD, peekD, setO, List.getElem?_cons_zero, List.getElem?_cons_succ, List.cons_append, List.nil_append, List.append_nil, List.replicate, Nat.sub_self, List.set_cons_zero, List.set_cons_succ, List.length_cons, List.length_nil, Option.map_some, Option.map_none, Option.bind_some, if_true, reduceIte, Nat.reduceAdd, Nat.reduceLT, Nat.reduceSub, Bool.not_true, Bool.not_false, Bool.false_eq_true, Bool.false_and, Bool.true_and, Bool.and_false, Bool.and_true, intO, ceq, cne, cge, cgt, cle, clt, cin, cnin, nb, reduceCtorEq, decide_true, decide_false, mt0, mt1, mt2, mt3, ml0, ml1, ml2, ml3, Int.reduceNeg, setOs, if_false, bt_name, bt2, bt3, bt4, w_reads_raw hp h3 (by omega), hr, eM_dot, eM_0f, eM_1f, eN_amp, pm_plus, w_opened hm h3 hl]
    · simp only [f11, v_con, v_var, v_peek, v_glob, v_tup, v_lst, v_cellL, v_bin, v_cmp, v_chain, v_and, v_or, v_not, v_ite, v_idx, v_slice, v_rev, v_call, v_prim, v_meth, v_neg, evEs, evAs, evA, evI, evT, evIt, evB_cons, evB_nil, s_ite, s_ret, s_set, s_expr, s_raise, s_freeze, s_setT, s_put, s_par, s_for, p_ok, b_ok, b_ra, t_ok, t_ra, l_ok, cm_ok, q_nx, q_ret, q_ra, c_t, c_f, tr_bl, f_ret, f_nx, f_ra, nx_some, varD, peekD, setO, List.getElem?_cons_zero, List.getElem?_cons_succ, List.cons_append, List.nil_append, List.append_nil, List.replicate, Nat.sub_self, List.set_cons_zero, List.set_cons_succ, List.length_cons, List.length_nil, Option.map_some, Option.map_none, Option.bind_some, if_true, reduceIte, Nat.reduceAdd, Nat.reduceLT, Nat.reduceSub, Bool.not_true, Bool.not_false, Bool.false_eq_true, Bool.false_and, Bool.true_and, Bool.and_false, Bool.and_true, intO, ceq, cne, cge, cgt, cle, clt, cin, cnin, nb, reduceCtorEq, decide_true, decide_false, mt0, mt1, mt2, mt3, ml0, ml1, ml2, ml3, Int.reduceNeg, setOs, if_false, bt_name, bt2, bt3, bt4, w_reads_raw hp h3 (by omega), hr, eM_dot, eM_0t, amp_amp, w_sign_in, List.map_cons, List.map_nil, eDd, sgn]
    · simp only [f11, v_con, v_var, v_peek, v_glob, v_tup, v_lst, v_cellL, v_bin, v_cmp, v_chain, v_and, v_or, v_not, v_ite, v_idx, v_slice, v_rev, v_call, v_prim, v_meth, v_neg, evEs, evAs, evA, evI, evT, evIt, evB_cons, evB_nil, s_ite, s_ret, s_set, s_expr, s_raise, s_freeze, s_setT, s_put, s_par, s_for, p_ok, b_ok, b_ra, t_ok, t_ra, l_ok, cm_ok, q_nx, q_ret, q_ra, c_t, c_f, tr_bl, f_ret, f_nx, f_ra, nx_some, varD, peekD, setO, List.getElem?_cons_zero, List.getElem?_cons_succ, List.cons_append, List.nil_append, List.append_nil, List.replicate, Nat.sub_self, List.set_cons_zero, List.set_cons_succ, List.length_cons, List.length_nil, Option.map_some, Option.map_none, Option.bind_some, if_true, reduceIte, Nat.reduceAdd, Nat.reduceLT, Nat.reduceSub, Bool.not_true, Bool.not_false, Bool.false_eq_true, Bool.false_and, Bool.true_and, Bool.and_false, Bool.and_true, intO, ceq, cne, cge, cgt, cle, clt, cin, cnin, nb, reduceCtorEq, decide_true, decide_false, mt0, mt1, mt2, mt3, ml0, ml1, ml2, ml3, Int.reduceNeg, setOs, if_false, bt_name, bt2, bt3, bt4, w_reads_raw hp h3 (by omega), hr, eM_dot, eM_0t, amp_amp, w_sign_in, List.map_cons, List.map_nil, eDd, sgn]
theorem w_end_deeds {p : Pile} (hl : p.length ≤ 900) : callN prog W (n + 1) 14 [.val (eP p)] st = .ok (.lst ((ends p).map eDd)) st := by
  rw [call_def (d := f14) rfl rfl rfl]
  have hE : evE prog.globs (callN prog W n) f14c0 [.val (eP p), .non] st = .ok (.lst ((p.map eN).map fun y => .tup [.str [99, 108, 111, 115, 101], y])) st := by
    refine e_map _ (v := .tup (p.map eN)) ?_ rfl (fun y hy => ?_) (by simp) (by simp; exact line_le' (b := 1000) (by omega) (by omega))
    · simp only [v_con, v_var, v_peek, v_glob, v_tup, v_lst, v_cellL, v_bin, v_cmp, v_chain, v_and, v_or, v_not, v_ite, v_idx, v_slice, v_rev, v_call, v_prim, v_meth, v_neg, evEs, evAs, evA, evI, evT, evIt, evB_cons, evB_nil, s_ite, s_ret, s_set, s_expr, s_raise, s_freeze, s_setT, s_put, s_par, s_for, p_ok, b_ok, b_ra, t_ok, t_ra, l_ok, cm_ok, q_nx, q_ret, q_ra, c_t, c_f, tr_bl, f_ret, f_nx, f_ra, nx_some, varD, peekD, setO, List.getElem?_cons_zero, List.getElem?_cons_succ, List.cons_append, List.nil_append, List.append_nil, List.replicate, Nat.sub_self, List.set_cons_zero, List.set_cons_succ, List.length_cons, List.length_nil, Option.map_some, Option.map_none, Option.bind_some, if_true, reduceIte, Nat.reduceAdd, Nat.reduceLT, Nat.reduceSub, Bool.not_true, Bool.not_false, Bool.false_eq_true, Bool.false_and, Bool.true_and, Bool.and_false, Bool.and_true, intO, ceq, cne, cge, cgt, cle, clt, cin, cnin, nb, reduceCtorEq, decide_true, decide_false, mt0, mt1, mt2, mt3, ml0, ml1, ml2, ml3, Int.reduceNeg, setOs, if_false, bt_name, bt2, bt3, bt4, eP_rev]
    · simp only [v_con, v_var, v_peek, v_glob, v_tup, v_lst, v_cellL, v_bin, v_cmp, v_chain, v_and, v_or, v_not, v_ite, v_idx, v_slice, v_rev, v_call, v_prim, v_meth, v_neg, evEs, evAs, evA, evI, evT, evIt, evB_cons, evB_nil, s_ite, s_ret, s_set, s_expr, s_raise, s_freeze, s_setT, s_put, s_par, s_for, p_ok, b_ok, b_ra, t_ok, t_ra, l_ok, cm_ok, q_nx, q_ret, q_ra, c_t, c_f, tr_bl, f_ret, f_nx, f_ra, nx_some, varD, peekD, setO, List.getElem?_cons_zero, List.getElem?_cons_succ, List.cons_append, List.nil_append, List.append_nil, List.replicate, Nat.sub_self, List.set_cons_zero, List.set_cons_succ, List.length_cons, List.length_nil, Option.map_some, Option.map_none, Option.bind_some, if_true, reduceIte, Nat.reduceAdd, Nat.reduceLT, Nat.reduceSub, Bool.not_true, Bool.not_false, Bool.false_eq_true, Bool.false_and, Bool.true_and, Bool.and_false, Bool.and_true, intO, ceq, cne, cge, cgt, cle, clt, cin, cnin, nb, reduceCtorEq, decide_true, decide_false, mt0, mt1, mt2, mt3, ml0, ml1, ml2, ml3, Int.reduceNeg, setOs, if_false, bt_name, bt2, bt3, bt4]
  simp only [f14, hE, v_con, v_var, v_peek, v_glob, v_tup, v_lst, v_cellL, v_bin, v_cmp, v_chain, v_and, v_or, v_not, v_ite, v_idx, v_slice, v_rev, v_call, v_prim, v_meth, v_neg, evEs, evAs, evA, evI, evT, evIt, evB_cons, evB_nil, s_ite, s_ret, s_set, s_expr, s_raise, s_freeze, s_setT, s_put, s_par, s_for, p_ok, b_ok, b_ra, t_ok, t_ra, l_ok, cm_ok, q_nx, q_ret, q_ra, c_t, c_f, tr_bl, f_ret, f_nx, f_ra, nx_some, varD, peekD, setO, List.getElem?_cons_zero, List.getElem?_cons_succ, List.cons_append, List.nil_append, List.append_nil, List.replicate, Nat.sub_self, List.set_cons_zero, List.set_cons_succ, List.length_cons, List.length_nil, Option.map_some, Option.map_none, Option.bind_some, if_true, reduceIte, Nat.reduceAdd, Nat.reduceLT, Nat.reduceSub, Bool.not_true, Bool.not_false, Bool.false_eq_true, Bool.false_and, Bool.true_and, Bool.and_false, Bool.and_true, intO, ceq, cne, cge, cgt, cle, clt, cin, cnin, nb, reduceCtorEq, decide_true, decide_false, mt0, mt1, mt2, mt3, ml0, ml1, ml2, ml3, Int.reduceNeg, setOs, if_false, bt_name, bt2, bt3, bt4, ends, List.map_map]
  rfl
theorem l_all_deeds {ts : Sl} (h3 : r.ks.length ≤ 3) : ∀ (ms : List Mk) (p : Pile) (ds : List Dd) (s4 s5 : Sl), POk r.ks.length p → (∀ m ∈ ms, MOk r.ks.length m) → p.length ≤ r.d → r.d ≤ 3 → ds.length + 5 * ms.length ≤ 1000000 →
    ∃ s4' s5', forL (.name 4) (evB prog.globs (callN prog W (n + 3)) W f15b0) (ms.map eM) [.val (eR r), ts, .val (eP p), .val (.lst (ds.map eDd)), s4, s5] st = .nx [.val (eR r), ts, .val (eP (run r p ms).1), .val (.lst ((ds ++ (run r p ms).2).map eDd)), s4', s5'] st
  | [], p, ds, s4, s5, _, _, _, _, _ => ⟨s4, s5, by simp [fl_nil, run]⟩
  | m :: ms, p, ds, s4, s5, hp, hm, hd, hd3, hl => by
    have hm0 := hm m List.mem_cons_self
    have ⟨hs1, hs2⟩ := step_len (m := m) hd
    rw [List.length_cons] at hl
    obtain ⟨s4', s5', ih⟩ := l_all_deeds h3 ms (step r p m).1 (ds ++ (step r p m).2) (.val (eM m)) (.val (.lst ((step r p m).2.map eDd))) (step_ok hp hm0) (fun x hx => hm x (List.mem_cons_of_mem _ hx)) hs1 hd3 (by rw [List.length_append]; omega)
    refine ⟨s4', s5', ?_⟩
    rw [List.map_cons, fl_cons (ρ1 := [.val (eR r), ts, .val (eP p), .val (.lst (ds.map eDd)), .val (eM m), s5]) (by rfl) (ρ2 := [.val (eR r), ts, .val (eP (step r p m).1), .val (.lst ((ds ++ (step r p m).2).map eDd)), .val (eM m), .val (.lst ((step r p m).2.map eDd))]) (st2 := st), ih]
    · simp [run, List.append_assoc]
    · simp only [f15b0, v_con, v_var, v_peek, v_glob, v_tup, v_lst, v_cellL, v_bin, v_cmp, v_chain, v_and, v_or, v_not, v_ite, v_idx, v_slice, v_rev, v_call, v_prim, v_meth, v_neg, evEs, evAs, evA, evI, evT, evIt, evB_cons, evB_nil, s_ite, s_ret, s_set, s_expr, s_raise, s_freeze, s_setT, s_put, s_par, s_for, p_ok, b_ok, b_ra, t_ok, t_ra, l_ok, cm_ok, q_nx, q_ret, q_ra, c_t, c_f, tr_bl, f_ret, f_nx, f_ra, nx_some, varD, peekD, setO, List.getElem?_cons_zero, List.getElem?_cons_succ, List.cons_append, List.nil_append, List.append_nil, List.replicate, Nat.sub_self, List.set_cons_zero, List.set_cons_succ, List.length_cons, List.length_nil, Option.map_some, Option.map_none, Option.bind_some, if_true, reduceIte, Nat.reduceAdd, Nat.reduceLT, Nat.reduceSub, Bool.not_true, Bool.not_false, Bool.false_eq_true, Bool.false_and, Bool.true_and, Bool.and_false, Bool.and_true, intO, ceq, cne, cge, cgt, cle, clt, cin, cnin, nb, reduceCtorEq, decide_true, decide_false, mt0, mt1, mt2, mt3, ml0, ml1, ml2, ml3, Int.reduceNeg, setOs, if_false, bt_name, bt2, bt3, bt4, w_step hp hm0 h3 (by omega), add_l' (xs := ds.map eDd) (ys := (step r p m).2.map eDd) (line_le' (b := 1000000) (by simp; omega) (by omega)), List.map_append]
theorem w_all_deeds {ms : List Mk} {v : D} (hv : items v = some (ms.map eM)) (hr : r.Ok) (hm : ∀ m ∈ ms, MOk r.ks.length m) (hl : ms.length ≤ 100000) : callN prog W (n + 4) 15 [.val (eR r), .val v] st = .ok (.lst ((deeds r ms).map eDd)) st := by
  rw [call_def (d := f15) rfl rfl rfl]
  obtain ⟨s4', s5', e⟩ := l_all_deeds (n := n) (st := st) (ts := .val v) hr.n3 ms [] [] .non .non (by intro x hx; simp at hx) hm (by simp) hr.d3 (by simp; omega)
  have ⟨h1, h2⟩ := run_len (r := r) (ms := ms) (p := []) (by simp)
  have hd3 := hr.d3
  have h5 : (r.d + 2) * ms.length ≤ 5 * ms.length := Nat.mul_le_mul_right _ (by omega)
  rw [List.map_nil, List.nil_append] at e
  simp only [f15, v_con, v_var, v_peek, v_glob, v_tup, v_lst, v_cellL, v_bin, v_cmp, v_chain, v_and, v_or, v_not, v_ite, v_idx, v_slice, v_rev, v_call, v_prim, v_meth, v_neg, evEs, evAs, evA, evI, evT, evIt, evB_cons, evB_nil, s_ite, s_ret, s_set, s_expr, s_raise, s_freeze, s_setT, s_put, s_par, s_for, p_ok, b_ok, b_ra, t_ok, t_ra, l_ok, cm_ok, q_nx, q_ret, q_ra, c_t, c_f, tr_bl, f_ret, f_nx, f_ra, nx_some, varD, peekD, setO, List.getElem?_cons_zero, List.getElem?_cons_succ, List.cons_append, List.nil_append, List.append_nil, List.replicate, Nat.sub_self, List.set_cons_zero, List.set_cons_succ, List.length_cons, List.length_nil, Option.map_some, Option.map_none, Option.bind_some, if_true, reduceIte, Nat.reduceAdd, Nat.reduceLT, Nat.reduceSub, Bool.not_true, Bool.not_false, Bool.false_eq_true, Bool.false_and, Bool.true_and, Bool.and_false, Bool.and_true, intO, ceq, cne, cge, cgt, cle, clt, cin, cnin, nb, reduceCtorEq, decide_true, decide_false, mt0, mt1, mt2, mt3, ml0, ml1, ml2, ml3, Int.reduceNeg, setOs, if_false, bt_name, bt2, bt3, bt4, ← eP_nil, hv, e, w_end_deeds (p := (run r [] ms).1) (n := n + 2) (by omega), add_l' (xs := (run r [] ms).2.map eDd) (ys := (ends (run r [] ms).1).map eDd) (line_le' (b := 1000000) (by simp [ends]; omega) (by omega)), deeds, List.map_append]
theorem l_tree_of {d0 : Sl} : ∀ (ds : List Dd) (p : Pile) (rows : List (List Nd)) (ns : List D) (s3 s4 s5 s6 : Sl), Fit p ds → rows.length = p.length + 1 → (∀ a ∈ rows, a.length + ds.length ≤ 1000000) → rows.length + ds.length ≤ 1000000 → ns.length + ds.length ≤ 1000000 →
    ∃ ns' s3' s4' s5' s6', forL (.tup [.name 3, .name 4]) (evB prog.globs (callN prog W n) W f16b0) (ds.map eDd) [d0, .val (eRow rows), .val (.lst ns), s3, s4, s5, s6] st = .nx [d0, .val (eRow (tapps rows ds)), .val (.lst ns'), s3', s4', s5', s6'] st
  | [], p, rows, ns, s3, s4, s5, s6, _, _, _, _, _ => ⟨ns, s3, s4, s5, s6, by simp [fl_nil, tapps]⟩
  | .op x :: ds, p, rows, ns, s3, s4, s5, s6, hf, h1, h2, h3, h4 => by
    rw [List.length_cons] at h3 h4
    obtain ⟨ns', s3', s4', s5', s6', ih⟩ := l_tree_of ds (x :: p) ([] :: rows) (ns ++ [eN x]) (.val (.str [111, 112, 101, 110])) (.val (eN x)) s5 s6 hf (by simp [h1]) (fun a ha => by
      rcases List.mem_cons.mp ha with rfl | ha
      · simp; omega
      · have := h2 a ha; simp at this; omega) (by simp; omega) (by simp; omega)
    refine ⟨ns', s3', s4', s5', s6', ?_⟩
    rw [List.map_cons, fl_cons (ρ1 := [d0, .val (eRow rows), .val (.lst ns), .val (.str [111, 112, 101, 110]), .val (eN x), s5, s6]) (by rfl) (ρ2 := [d0, .val (eRow ([] :: rows)), .val (.lst (ns ++ [eN x])), .val (.str [111, 112, 101, 110]), .val (eN x), s5, s6]) (st2 := st), ih]
    · rfl
    · simp only [f16b0, v_con, v_var, v_peek, v_glob, v_tup, v_lst, v_cellL, v_bin, v_cmp, v_chain, v_and, v_or, v_not, v_ite, v_idx, v_slice, v_rev, v_call, v_prim, v_meth, v_neg, evEs, evAs, evA, evI, evT, evIt, evB_cons, evB_nil, s_ite, s_ret, s_set, s_expr, s_raise, s_freeze, s_setT, s_put, s_par, s_for, p_ok, b_ok, b_ra, t_ok, t_ra, l_ok, cm_ok, q_nx, q_ret, q_ra, c_t, c_f, tr_bl, f_ret, f_nx, f_ra, nx_some, varD, peekD, setO, List.getElem?_cons_zero, List.getElem?_cons_succ, List.cons_append, List.nil_append, List.append_nil, List.replicate, Nat.sub_self, List.set_cons_zero, List.set_cons_succ, List.length_cons, List.length_nil, Option.map_some, Option.map_none, Option.bind_some, if_true, reduceIte, Nat.reduceAdd, Nat.reduceLT, Nat.reduceSub, Bool.not_true, Bool.not_false, Bool.false_eq_true, Bool.false_and, Bool.true_and, Bool.and_false, Bool.and_true, intO, ceq, cne, cge, cgt, cle, clt, cin, cnin, nb, reduceCtorEq, decide_true, decide_false, mt0, mt1, mt2, mt3, ml0, ml1, ml2, ml3, Int.reduceNeg, setOs, if_false, bt_name, bt2, bt3, bt4, eq_ss, ← eT_nil, eRow_add (a := []) (r := rows) (by omega), add_l' (xs := ns) (ys := [eN x]) (line_le' (b := 1000001) (by simp; omega) (by omega))]
      simp only [v_con, v_var, v_peek, v_glob, v_tup, v_lst, v_cellL, v_bin, v_cmp, v_chain, v_and, v_or, v_not, v_ite, v_idx, v_slice, v_rev, v_call, v_prim, v_meth, v_neg, evEs, evAs, evA, evI, evT, evIt, evB_cons, evB_nil, s_ite, s_ret, s_set, s_expr, s_raise, s_freeze, s_setT, s_put, s_par, s_for, p_ok, b_ok, b_ra, t_ok, t_ra, l_ok, cm_ok, q_nx, q_ret, q_ra, c_t, c_f, tr_bl, f_ret, f_nx, f_ra, nx_some, varD, peekD, setO, List.getElem?_cons_zero, List.getElem?_cons_succ, List.cons_append, List.nil_append, List.append_nil, List.replicate, Nat.sub_self, List.set_cons_zero, List.set_cons_succ, List.length_cons, List.length_nil, Option.map_some, Option.map_none, Option.bind_some, if_true, reduceIte, Nat.reduceAdd, Nat.reduceLT, Nat.reduceSub, Bool.not_true, Bool.not_false, Bool.false_eq_true, Bool.false_and, Bool.true_and, Bool.and_false, Bool.and_true, intO, ceq, cne, cge, cgt, cle, clt, cin, cnin, nb, reduceCtorEq, decide_true, decide_false, mt0, mt1, mt2, mt3, ml0, ml1, ml2, ml3, Int.reduceNeg, setOs, if_false, bt_name, bt2, bt3, bt4, BEq.rfl]
  | .cl x :: ds, p, rows, ns, s3, s4, s5, s6, hf, h1, h2, h3, h4 => by
    rw [List.length_cons] at h3 h4
    obtain ⟨y, q, rfl⟩ : ∃ y q, p = y :: q := by
      cases p with
      | nil => simp [Fit] at hf
      | cons y q => exact ⟨y, q, rfl⟩
    obtain ⟨a, b, rs, rfl⟩ : ∃ a b rs, rows = a :: b :: rs := by
      rcases rows with _ | ⟨a, _ | ⟨b, rs⟩⟩ <;> simp at h1
      exact ⟨a, b, rs, rfl⟩
    have hf2 : Fit q ds := hf.2
    have hb := h2 b (by simp)
    simp at hb
    obtain ⟨ns', s3', s4', s5', s6', ih⟩ := l_tree_of ds q ((b ++ [.pt x a]) :: rs) (cut ns none (some (-1))) (.val (.str [99, 108, 111, 115, 101])) (.val (eN x)) (.val (.tup [eN x, eT a])) s6 hf2 (by simp at h1 ⊢; omega) (fun c hc => by
      rcases List.mem_cons.mp hc with rfl | hc
      · simp; omega
      · have := h2 c (by simp [hc]); simp at this; omega) (by simp at h3 ⊢; omega) (by
        have : (cut ns none (some (-1))).length ≤ ns.length := by unfold cut; rw [List.length_drop, List.length_take]; omega
        omega)
    refine ⟨ns', s3', s4', s5', s6', ?_⟩
    rw [List.map_cons, fl_cons (ρ1 := [d0, .val (eRow (a :: b :: rs)), .val (.lst ns), .val (.str [99, 108, 111, 115, 101]), .val (eN x), s5, s6]) (by rfl) (ρ2 := [d0, .val (eRow ((b ++ [.pt x a]) :: rs)), .val (.lst (cut ns none (some (-1)))), .val (.str [99, 108, 111, 115, 101]), .val (eN x), .val (.tup [eN x, eT a]), s6]) (st2 := st), ih]
    · rfl
    · simp only [f16b0, v_con, v_var, v_peek, v_glob, v_tup, v_lst, v_cellL, v_bin, v_cmp, v_chain, v_and, v_or, v_not, v_ite, v_idx, v_slice, v_rev, v_call, v_prim, v_meth, v_neg, evEs, evAs, evA, evI, evT, evIt, evB_cons, evB_nil, s_ite, s_ret, s_set, s_expr, s_raise, s_freeze, s_setT, s_put, s_par, s_for, p_ok, b_ok, b_ra, t_ok, t_ra, l_ok, cm_ok, q_nx, q_ret, q_ra, c_t, c_f, tr_bl, f_ret, f_nx, f_ra, nx_some, varD, peekD, setO, List.getElem?_cons_zero, List.getElem?_cons_succ, List.cons_append, List.nil_append, List.append_nil, List.replicate, Nat.sub_self, List.set_cons_zero, List.set_cons_succ, List.length_cons, List.length_nil, Option.map_some, Option.map_none, Option.bind_some, if_true, reduceIte, Nat.reduceAdd, Nat.reduceLT, Nat.reduceSub, Bool.not_true, Bool.not_false, Bool.false_eq_true, Bool.false_and, Bool.true_and, Bool.and_false, Bool.and_true, intO, ceq, cne, cge, cgt, cle, clt, cin, cnin, nb, reduceCtorEq, decide_true, decide_false, mt0, mt1, mt2, mt3, ml0, ml1, ml2, ml3, Int.reduceNeg, setOs, if_false, bt_name, bt2, bt3, bt4, eq_ss, eRow_i1, eRow_i2, eRow_s2, eT_add (a := b) (n := .pt x a) (d := .tup [eN x, eT a]) (by rw [eNd_pt]; rfl) (by omega), eRow_add (a := b ++ [.pt x a]) (r := rs) (by simp at h3; omega), sl_l', show (([99, 108, 111, 115, 101] : List Nat) == [111, 112, 101, 110]) = false from rfl]
      simp only [v_con, v_var, v_peek, v_glob, v_tup, v_lst, v_cellL, v_bin, v_cmp, v_chain, v_and, v_or, v_not, v_ite, v_idx, v_slice, v_rev, v_call, v_prim, v_meth, v_neg, evEs, evAs, evA, evI, evT, evIt, evB_cons, evB_nil, s_ite, s_ret, s_set, s_expr, s_raise, s_freeze, s_setT, s_put, s_par, s_for, p_ok, b_ok, b_ra, t_ok, t_ra, l_ok, cm_ok, q_nx, q_ret, q_ra, c_t, c_f, tr_bl, f_ret, f_nx, f_ra, nx_some, varD, peekD, setO, List.getElem?_cons_zero, List.getElem?_cons_succ, List.cons_append, List.nil_append, List.append_nil, List.replicate, Nat.sub_self, List.set_cons_zero, List.set_cons_succ, List.length_cons, List.length_nil, Option.map_some, Option.map_none, Option.bind_some, if_true, reduceIte, Nat.reduceAdd, Nat.reduceLT, Nat.reduceSub, Bool.not_true, Bool.not_false, Bool.false_eq_true, Bool.false_and, Bool.true_and, Bool.and_false, Bool.and_true, intO, ceq, cne, cge, cgt, cle, clt, cin, cnin, nb, reduceCtorEq, decide_true, decide_false, mt0, mt1, mt2, mt3, ml0, ml1, ml2, ml3, Int.reduceNeg, setOs, if_false, bt_name, bt2, bt3, bt4, BEq.rfl, eRow_i1, eRow_i2, eRow_s2, eT_add (a := b) (n := .pt x a) (d := .tup [eN x, eT a]) (by rw [eNd_pt]; rfl) (by omega), eRow_add (a := b ++ [.pt x a]) (r := rs) (by simp at h3; omega), sl_l']
  | .vd x :: ds, p, rows, ns, s3, s4, s5, s6, hf, h1, h2, h3, h4 => by
    rw [List.length_cons] at h3 h4
    obtain ⟨a, rs, rfl⟩ : ∃ a rs, rows = a :: rs := by
      rcases rows with _ | ⟨a, rs⟩ <;> simp at h1
      exact ⟨a, rs, rfl⟩
    have ha := h2 a (by simp)
    simp at ha
    obtain ⟨ns', s3', s4', s5', s6', ih⟩ := l_tree_of ds p ((a ++ [.pt x []]) :: rs) ns (.val (.str [118, 111, 105, 100])) (.val (eN x)) s5 (.val (.tup [eN x, eT []])) hf (by simpa using h1) (fun c hc => by
      rcases List.mem_cons.mp hc with rfl | hc
      · simp; omega
      · have := h2 c (by simp [hc]); simp at this; omega) (by simp at h3 ⊢; omega) (by omega)
    refine ⟨ns', s3', s4', s5', s6', ?_⟩
    rw [List.map_cons, fl_cons (ρ1 := [d0, .val (eRow (a :: rs)), .val (.lst ns), .val (.str [118, 111, 105, 100]), .val (eN x), s5, s6]) (by rfl) (ρ2 := [d0, .val (eRow ((a ++ [.pt x []]) :: rs)), .val (.lst ns), .val (.str [118, 111, 105, 100]), .val (eN x), s5, .val (.tup [eN x, eT []])]) (st2 := st), ih]
    · rfl
    · simp only [f16b0, v_con, v_var, v_peek, v_glob, v_tup, v_lst, v_cellL, v_bin, v_cmp, v_chain, v_and, v_or, v_not, v_ite, v_idx, v_slice, v_rev, v_call, v_prim, v_meth, v_neg, evEs, evAs, evA, evI, evT, evIt, evB_cons, evB_nil, s_ite, s_ret, s_set, s_expr, s_raise, s_freeze, s_setT, s_put, s_par, s_for, p_ok, b_ok, b_ra, t_ok, t_ra, l_ok, cm_ok, q_nx, q_ret, q_ra, c_t, c_f, tr_bl, f_ret, f_nx, f_ra, nx_some, varD, peekD, setO, List.getElem?_cons_zero, List.getElem?_cons_succ, List.cons_append, List.nil_append, List.append_nil, List.replicate, Nat.sub_self, List.set_cons_zero, List.set_cons_succ, List.length_cons, List.length_nil, Option.map_some, Option.map_none, Option.bind_some, if_true, reduceIte, Nat.reduceAdd, Nat.reduceLT, Nat.reduceSub, Bool.not_true, Bool.not_false, Bool.false_eq_true, Bool.false_and, Bool.true_and, Bool.and_false, Bool.and_true, intO, ceq, cne, cge, cgt, cle, clt, cin, cnin, nb, reduceCtorEq, decide_true, decide_false, mt0, mt1, mt2, mt3, ml0, ml1, ml2, ml3, Int.reduceNeg, setOs, if_false, bt_name, bt2, bt3, bt4, eq_ss, ← eT_nil, show (([118, 111, 105, 100] : List Nat) == [111, 112, 101, 110]) = false from rfl, show (([118, 111, 105, 100] : List Nat) == [99, 108, 111, 115, 101]) = false from rfl, BEq.rfl]
      simp only [v_con, v_var, v_peek, v_glob, v_tup, v_lst, v_cellL, v_bin, v_cmp, v_chain, v_and, v_or, v_not, v_ite, v_idx, v_slice, v_rev, v_call, v_prim, v_meth, v_neg, evEs, evAs, evA, evI, evT, evIt, evB_cons, evB_nil, s_ite, s_ret, s_set, s_expr, s_raise, s_freeze, s_setT, s_put, s_par, s_for, p_ok, b_ok, b_ra, t_ok, t_ra, l_ok, cm_ok, q_nx, q_ret, q_ra, c_t, c_f, tr_bl, f_ret, f_nx, f_ra, nx_some, varD, peekD, setO, List.getElem?_cons_zero, List.getElem?_cons_succ, List.cons_append, List.nil_append, List.append_nil, List.replicate, Nat.sub_self, List.set_cons_zero, List.set_cons_succ, List.length_cons, List.length_nil, Option.map_some, Option.map_none, Option.bind_some, if_true, reduceIte, Nat.reduceAdd, Nat.reduceLT, Nat.reduceSub, Bool.not_true, Bool.not_false, Bool.false_eq_true, Bool.false_and, Bool.true_and, Bool.and_false, Bool.and_true, intO, ceq, cne, cge, cgt, cle, clt, cin, cnin, nb, reduceCtorEq, decide_true, decide_false, mt0, mt1, mt2, mt3, ml0, ml1, ml2, ml3, Int.reduceNeg, setOs, if_false, bt_name, bt2, bt3, bt4, ← eT_nil, eRow_i1, eRow_s1, eT_add (a := a) (n := .pt x []) (d := .tup [eN x, eT []]) (by rw [eNd_pt]; rfl) (by omega), eRow_add (a := a ++ [.pt x []]) (r := rs) (by simp at h3; omega)]
  | .sg s :: ds, p, rows, ns, s3, s4, s5, s6, hf, h1, h2, h3, h4 => by
    rw [List.length_cons] at h3 h4
    obtain ⟨a, rs, rfl⟩ : ∃ a rs, rows = a :: rs := by
      rcases rows with _ | ⟨a, rs⟩ <;> simp at h1
      exact ⟨a, rs, rfl⟩
    have ha := h2 a (by simp)
    simp at ha
    obtain ⟨ns', s3', s4', s5', s6', ih⟩ := l_tree_of ds p ((a ++ [.sg s]) :: rs) ns (.val (.str [115, 105, 103, 110])) (.val (eS s)) s5 (.val (eS s)) hf (by simpa using h1) (fun c hc => by
      rcases List.mem_cons.mp hc with rfl | hc
      · simp; omega
      · have := h2 c (by simp [hc]); simp at this; omega) (by simp at h3 ⊢; omega) (by omega)
    refine ⟨ns', s3', s4', s5', s6', ?_⟩
    rw [List.map_cons, fl_cons (ρ1 := [d0, .val (eRow (a :: rs)), .val (.lst ns), .val (.str [115, 105, 103, 110]), .val (eS s), s5, s6]) (by rfl) (ρ2 := [d0, .val (eRow ((a ++ [.sg s]) :: rs)), .val (.lst ns), .val (.str [115, 105, 103, 110]), .val (eS s), s5, .val (eS s)]) (st2 := st), ih]
    · rfl
    · simp only [f16b0, v_con, v_var, v_peek, v_glob, v_tup, v_lst, v_cellL, v_bin, v_cmp, v_chain, v_and, v_or, v_not, v_ite, v_idx, v_slice, v_rev, v_call, v_prim, v_meth, v_neg, evEs, evAs, evA, evI, evT, evIt, evB_cons, evB_nil, s_ite, s_ret, s_set, s_expr, s_raise, s_freeze, s_setT, s_put, s_par, s_for, p_ok, b_ok, b_ra, t_ok, t_ra, l_ok, cm_ok, q_nx, q_ret, q_ra, c_t, c_f, tr_bl, f_ret, f_nx, f_ra, nx_some, varD, peekD, setO, List.getElem?_cons_zero, List.getElem?_cons_succ, List.cons_append, List.nil_append, List.append_nil, List.replicate, Nat.sub_self, List.set_cons_zero, List.set_cons_succ, List.length_cons, List.length_nil, Option.map_some, Option.map_none, Option.bind_some, if_true, reduceIte, Nat.reduceAdd, Nat.reduceLT, Nat.reduceSub, Bool.not_true, Bool.not_false, Bool.false_eq_true, Bool.false_and, Bool.true_and, Bool.and_false, Bool.and_true, intO, ceq, cne, cge, cgt, cle, clt, cin, cnin, nb, reduceCtorEq, decide_true, decide_false, mt0, mt1, mt2, mt3, ml0, ml1, ml2, ml3, Int.reduceNeg, setOs, if_false, bt_name, bt2, bt3, bt4, eq_ss, show (([115, 105, 103, 110] : List Nat) == [111, 112, 101, 110]) = false from rfl, show (([115, 105, 103, 110] : List Nat) == [99, 108, 111, 115, 101]) = false from rfl, show (([115, 105, 103, 110] : List Nat) == [118, 111, 105, 100]) = false from rfl]
      simp only [v_con, v_var, v_peek, v_glob, v_tup, v_lst, v_cellL, v_bin, v_cmp, v_chain, v_and, v_or, v_not, v_ite, v_idx, v_slice, v_rev, v_call, v_prim, v_meth, v_neg, evEs, evAs, evA, evI, evT, evIt, evB_cons, evB_nil, s_ite, s_ret, s_set, s_expr, s_raise, s_freeze, s_setT, s_put, s_par, s_for, p_ok, b_ok, b_ra, t_ok, t_ra, l_ok, cm_ok, q_nx, q_ret, q_ra, c_t, c_f, tr_bl, f_ret, f_nx, f_ra, nx_some, varD, peekD, setO, List.getElem?_cons_zero, List.getElem?_cons_succ, List.cons_append, List.nil_append, List.append_nil, List.replicate, Nat.sub_self, List.set_cons_zero, List.set_cons_succ, List.length_cons, List.length_nil, Option.map_some, Option.map_none, Option.bind_some, if_true, reduceIte, Nat.reduceAdd, Nat.reduceLT, Nat.reduceSub, Bool.not_true, Bool.not_false, Bool.false_eq_true, Bool.false_and, Bool.true_and, Bool.and_false, Bool.and_true, intO, ceq, cne, cge, cgt, cle, clt, cin, cnin, nb, reduceCtorEq, decide_true, decide_false, mt0, mt1, mt2, mt3, ml0, ml1, ml2, ml3, Int.reduceNeg, setOs, if_false, bt_name, bt2, bt3, bt4, eRow_i1, eRow_s1, eT_add (a := a) (n := .sg s) (d := eS s) (by rw [eNd_sg]) (by omega), eRow_add (a := a ++ [.sg s]) (r := rs) (by simp at h3; omega)]
theorem tapp_ne {rows : List (List Nd)} (h : rows ≠ []) (d : Dd) : tapp rows d ≠ [] := by
  rcases rows with _ | ⟨a, _ | ⟨b, rs⟩⟩
  · exact absurd rfl h
  · cases d <;> simp [tapp]
  · cases d <;> simp [tapp]
theorem tapps_ne : ∀ (ds : List Dd) {rows : List (List Nd)}, rows ≠ [] → tapps rows ds ≠ []
  | [], rows, h => h
  | d :: ds, rows, h => tapps_ne ds (tapp_ne h d)
theorem w_tree_of {ds : List Dd} (hf : Fit [] ds) (hl : ds.length ≤ 900000) : callN prog W (n + 1) 16 [.val (.lst (ds.map eDd))] st = .ok (eT (tree ds)) st := by
  rw [call_def (d := f16) rfl rfl rfl]
  obtain ⟨ns', s3', s4', s5', s6', e⟩ := l_tree_of (n := n) (st := st) (d0 := .val (.lst (ds.map eDd))) ds [] [[]] [] .non .non .non .non hf rfl (by simp; omega) (by simp; omega) (by simp; omega)
  have h0 : D.lst [D.tup []] = eRow [[]] := rfl
  simp only [f16, v_con, v_var, v_peek, v_glob, v_tup, v_lst, v_cellL, v_bin, v_cmp, v_chain, v_and, v_or, v_not, v_ite, v_idx, v_slice, v_rev, v_call, v_prim, v_meth, v_neg, evEs, evAs, evA, evI, evT, evIt, evB_cons, evB_nil, s_ite, s_ret, s_set, s_expr, s_raise, s_freeze, s_setT, s_put, s_par, s_for, p_ok, b_ok, b_ra, t_ok, t_ra, l_ok, cm_ok, q_nx, q_ret, q_ra, c_t, c_f, tr_bl, f_ret, f_nx, f_ra, nx_some, varD, peekD, setO, List.getElem?_cons_zero, List.getElem?_cons_succ, List.cons_append, List.nil_append, List.append_nil, List.replicate, Nat.sub_self, List.set_cons_zero, List.set_cons_succ, List.length_cons, List.length_nil, Option.map_some, Option.map_none, Option.bind_some, if_true, reduceIte, Nat.reduceAdd, Nat.reduceLT, Nat.reduceSub, Bool.not_true, Bool.not_false, Bool.false_eq_true, Bool.false_and, Bool.true_and, Bool.and_false, Bool.and_true, intO, ceq, cne, cge, cgt, cle, clt, cin, cnin, nb, reduceCtorEq, decide_true, decide_false, mt0, mt1, mt2, mt3, ml0, ml1, ml2, ml3, Int.reduceNeg, setOs, if_false, bt_name, bt2, bt3, bt4, h0, items, e, eRow_0 (tapps_ne ds (by simp : ([[]] : List (List Nd)) ≠ [])), tree]
end
end K02
end
section
set_option maxRecDepth 100000
set_option maxHeartbeats 4000000
/-! RdN: what the law's own reading computes. -/
namespace K02
open Mini Rdr
section
variable {r : R} {n : Nat} {st : Store}
theorem w_law_kind {x : Nat} (h : x < r.ks.length) (h3 : r.ks.length ≤ 3) : callN prog W (n + 1) 28 [.val (eR r), .val (eN x)] st = .ok (eK (r.kind x)) st := by
  rw [call_def (d := f28) rfl rfl rfl]
  simp only [f28, v_con, v_var, v_peek, v_glob, v_tup, v_lst, v_cellL, v_bin, v_cmp, v_chain, v_and, v_or, v_not, v_ite, v_idx, v_slice, v_rev, v_call, v_prim, v_meth, v_neg, evEs, evAs, evA, evI, evT, evIt, evB_cons, evB_nil, s_ite, s_ret, s_set, s_expr, s_raise, s_freeze, s_setT, s_put, s_par, s_for, p_ok, b_ok, b_ra, t_ok, t_ra, l_ok, cm_ok, q_nx, q_ret, q_ra, c_t, c_f, tr_bl, f_ret, f_nx, f_ra, nx_some, varD, peekD, setO, List.getElem?_cons_zero, List.getElem?_cons_succ, List.cons_append, List.nil_append, List.append_nil, List.replicate, Nat.sub_self, List.set_cons_zero, List.set_cons_succ, List.length_cons, List.length_nil, Option.map_some, Option.map_none, Option.bind_some, if_true, reduceIte, Nat.reduceAdd, Nat.reduceLT, Nat.reduceSub, Bool.not_true, Bool.not_false, Bool.false_eq_true, Bool.false_and, Bool.true_and, Bool.and_false, Bool.and_true, intO, ceq, cne, cge, cgt, cle, clt, cin, cnin, nb, reduceCtorEq, decide_true, decide_false, mt0, mt1, mt2, mt3, ml0, ml1, ml2, ml3, Int.reduceNeg, setOs, if_false, bt_name, bt2, bt3, bt4, eR_0, meth_six, six (show x < 3 by omega), eks_ix h]
theorem w_law_is_raw {p : Pile} {v : D} (hv : v = eNl p ∨ v = eP p) (hp : POk r.ks.length p) (h3 : r.ks.length ≤ 3) (hl : p.length ≤ 1000) : callN prog W (n + 2) 29 [.val (eR r), .val v] st = .ok (.bl (r.raw p)) st := by
  rw [call_def (d := f29) rfl rfl rfl]
  have hlen : primD .len v = some (.int p.length) := by
    rcases hv with rfl | rfl
    · exact eNl_len
    · exact eP_len
  cases p with
  | nil => 
    have e0 : eqD (.int ((0 : Nat) : Int)) (.int 0) = some true := rfl
    simp only [f29, v_con, v_var, v_peek, v_glob, v_tup, v_lst, v_cellL, v_bin, v_cmp, v_chain, v_and, v_or, v_not, v_ite, v_idx, v_slice, v_rev, v_call, v_prim, v_meth, v_neg, evEs, evAs, evA, evI, evT, evIt, evB_cons, evB_nil, s_ite, s_ret, s_set, s_expr, s_raise, s_freeze, s_setT, s_put, s_par, s_for, p_ok, b_ok, b_ra, t_ok, t_ra, l_ok, cm_ok, q_nx, q_ret, q_ra, c_t, c_f, tr_bl, f_ret, f_nx, f_ra, nx_some, varD, peekD, setO, List.getElem?_cons_zero, List.getElem?_cons_succ, List.cons_append, List.nil_append, List.append_nil, List.replicate, Nat.sub_self, List.set_cons_zero, List.set_cons_succ, List.length_cons, List.length_nil, Option.map_some, Option.map_none, Option.bind_some, if_true, reduceIte, Nat.reduceAdd, Nat.reduceLT, Nat.reduceSub, Bool.not_true, Bool.not_false, Bool.false_eq_true, Bool.false_and, Bool.true_and, Bool.and_false, Bool.and_true, intO, ceq, cne, cge, cgt, cle, clt, cin, cnin, nb, reduceCtorEq, decide_true, decide_false, mt0, mt1, mt2, mt3, ml0, ml1, ml2, ml3, Int.reduceNeg, setOs, if_false, bt_name, bt2, bt3, bt4, hlen, e0, R.raw]
  | cons x q =>
    have hx : x < r.ks.length := hp x (by simp)
    have hidx : idxD st v (.int (-1)) = some (eN x) := by
      rcases hv with rfl | rfl
      · exact eNl_idx
      · exact eP_idx
    obtain ⟨w, hcut, hit⟩ : ∃ w, sliceD v none (some (-1)) = some w ∧ items w = some (q.reverse.map eN) := by
      rcases hv with rfl | rfl
      · exact ⟨_, eNl_cut, eNl_items⟩
      · exact ⟨_, eP_cut, eP_items⟩
    have hE : evE prog.globs (callN prog W (n + 1)) f29c0 [.val (eR r), .val v, .non] st = .ok (.lst (((q.reverse.map eN).filter fun x => match x with | .str [c] => decide (r.kind (c - 97) = .mode) | _ => false).map fun _ => .int 1)) st := by
      refine e_ones _ (v := w) ?_ hit (fun y hy => ?_) (by simp) (by simp at hl ⊢; exact line_le' (b := 1000) (by omega) (by omega))
      · simp only [v_con, v_var, v_peek, v_glob, v_tup, v_lst, v_cellL, v_bin, v_cmp, v_chain, v_and, v_or, v_not, v_ite, v_idx, v_slice, v_rev, v_call, v_prim, v_meth, v_neg, evEs, evAs, evA, evI, evT, evIt, evB_cons, evB_nil, s_ite, s_ret, s_set, s_expr, s_raise, s_freeze, s_setT, s_put, s_par, s_for, p_ok, b_ok, b_ra, t_ok, t_ra, l_ok, cm_ok, q_nx, q_ret, q_ra, c_t, c_f, tr_bl, f_ret, f_nx, f_ra, nx_some, varD, peekD, setO, List.getElem?_cons_zero, List.getElem?_cons_succ, List.cons_append, List.nil_append, List.append_nil, List.replicate, Nat.sub_self, List.set_cons_zero, List.set_cons_succ, List.length_cons, List.length_nil, Option.map_some, Option.map_none, Option.bind_some, if_true, reduceIte, Nat.reduceAdd, Nat.reduceLT, Nat.reduceSub, Bool.not_true, Bool.not_false, Bool.false_eq_true, Bool.false_and, Bool.true_and, Bool.and_false, Bool.and_true, intO, ceq, cne, cge, cgt, cle, clt, cin, cnin, nb, reduceCtorEq, decide_true, decide_false, mt0, mt1, mt2, mt3, ml0, ml1, ml2, ml3, Int.reduceNeg, setOs, if_false, bt_name, bt2, bt3, bt4, hcut]
      · obtain ⟨z, hz, rfl⟩ := List.mem_map.mp hy
        have hz : z < r.ks.length := hp z (by simp at hz ⊢; exact .inr hz)
        simp only [v_con, v_var, v_peek, v_glob, v_tup, v_lst, v_cellL, v_bin, v_cmp, v_chain, v_and, v_or, v_not, v_ite, v_idx, v_slice, v_rev, v_call, v_prim, v_meth, v_neg, evEs, evAs, evA, evI, evT, evIt, evB_cons, evB_nil, s_ite, s_ret, s_set, s_expr, s_raise, s_freeze, s_setT, s_put, s_par, s_for, p_ok, b_ok, b_ra, t_ok, t_ra, l_ok, cm_ok, q_nx, q_ret, q_ra, c_t, c_f, tr_bl, f_ret, f_nx, f_ra, nx_some, varD, peekD, setO, List.getElem?_cons_zero, List.getElem?_cons_succ, List.cons_append, List.nil_append, List.append_nil, List.replicate, Nat.sub_self, List.set_cons_zero, List.set_cons_succ, List.length_cons, List.length_nil, Option.map_some, Option.map_none, Option.bind_some, if_true, reduceIte, Nat.reduceAdd, Nat.reduceLT, Nat.reduceSub, Bool.not_true, Bool.not_false, Bool.false_eq_true, Bool.false_and, Bool.true_and, Bool.and_false, Bool.and_true, intO, ceq, cne, cge, cgt, cle, clt, cin, cnin, nb, reduceCtorEq, decide_true, decide_false, mt0, mt1, mt2, mt3, ml0, ml1, ml2, ml3, Int.reduceNeg, setOs, if_false, bt_name, bt2, bt3, bt4, w_law_kind hz h3, eK_mode]
        simp [eN]
    have e0 : eqD (.int ((q.length + 1 : Nat) : Int)) (.int 0) = some false := by
      rw [eq_ii']
      simp
      omega
    cases hk : decide (r.kind x = .raw) with
    | false => simp only [f29, v_con, v_var, v_peek, v_glob, v_tup, v_lst, v_cellL, v_bin, v_cmp, v_chain, v_and, v_or, v_not, v_ite, v_idx, v_slice, v_rev, v_call, v_prim, v_meth, v_neg, evEs, evAs, evA, evI, evT, evIt, evB_cons, evB_nil, s_ite, s_ret, s_set, s_expr, s_raise, s_freeze, s_setT, s_put, s_par, s_for, p_ok, b_ok, b_ra, t_ok, t_ra, l_ok, cm_ok, q_nx, q_ret, q_ra, c_t, c_f, tr_bl, f_ret, f_nx, f_ra, nx_some, varD, peekD, setO, List.getElem?_cons_zero, List.getElem?_cons_succ, List.cons_append, List.nil_append, List.append_nil, List.replicate, Nat.sub_self, List.set_cons_zero, List.set_cons_succ, List.length_cons, List.length_nil, Option.map_some, Option.map_none, Option.bind_some, if_true, reduceIte, Nat.reduceAdd, Nat.reduceLT, Nat.reduceSub, Bool.not_true, Bool.not_false, Bool.false_eq_true, Bool.false_and, Bool.true_and, Bool.and_false, Bool.and_true, intO, ceq, cne, cge, cgt, cle, clt, cin, cnin, nb, reduceCtorEq, decide_true, decide_false, mt0, mt1, mt2, mt3, ml0, ml1, ml2, ml3, Int.reduceNeg, setOs, if_false, bt_name, bt2, bt3, bt4, hlen, e0, hidx, w_law_kind hx h3, eK_raw, hk, R.raw, Bool.false_and]
    | true =>
      simp only [f29, hE, v_con, v_var, v_peek, v_glob, v_tup, v_lst, v_cellL, v_bin, v_cmp, v_chain, v_and, v_or, v_not, v_ite, v_idx, v_slice, v_rev, v_call, v_prim, v_meth, v_neg, evEs, evAs, evA, evI, evT, evIt, evB_cons, evB_nil, s_ite, s_ret, s_set, s_expr, s_raise, s_freeze, s_setT, s_put, s_par, s_for, p_ok, b_ok, b_ra, t_ok, t_ra, l_ok, cm_ok, q_nx, q_ret, q_ra, c_t, c_f, tr_bl, f_ret, f_nx, f_ra, nx_some, varD, peekD, setO, List.getElem?_cons_zero, List.getElem?_cons_succ, List.cons_append, List.nil_append, List.append_nil, List.replicate, Nat.sub_self, List.set_cons_zero, List.set_cons_succ, List.length_cons, List.length_nil, Option.map_some, Option.map_none, Option.bind_some, if_true, reduceIte, Nat.reduceAdd, Nat.reduceLT, Nat.reduceSub, Bool.not_true, Bool.not_false, Bool.false_eq_true, Bool.false_and, Bool.true_and, Bool.and_false, Bool.and_true, intO, ceq, cne, cge, cgt, cle, clt, cin, cnin, nb, reduceCtorEq, decide_true, decide_false, mt0, mt1, mt2, mt3, ml0, ml1, ml2, ml3, Int.reduceNeg, setOs, if_false, bt_name, bt2, bt3, bt4, hlen, e0, hidx, w_law_kind hx h3, eK_raw, hk, ones_eq, R.raw]
      simp [List.all_map, eN, Function.comp_def, List.not_any_eq_all_not]
theorem w_law_shut {l : Lr} {N : Nat} (hn : l.1 ≠ []) (h : LOk N l) (hN : N ≤ 900000) : callN prog W (n + 1) 30 [.val (eL l)] st = .ok (eL (lshut l)) st := by
  rw [call_def (d := f30) rfl rfl rfl]
  obtain ⟨s, t⟩ := l
  obtain ⟨⟨x, a⟩, s, rfl⟩ : ∃ q s', s = q :: s' := by
    cases s with
    | nil => exact absurd rfl hn
    | cons q s => exact ⟨q, s, rfl⟩
  have key : ∀ (m : D) (b : List Nd) (r : List (D × List Nd)), lr (s, t) = (m, b) :: r → b.length ≤ N → r.length ≤ 1000 → lr (lshut ((x, a) :: s, t)) = (m, b ++ [.pt x a]) :: r →
      (evB prog.globs (callN prog W n) W (match f30.body with | .stmts b => b | _ => []) ([Sl.val (eL ((x, a) :: s, t))] ++ List.replicate 1 .non) st).fin = .ok (eL (lshut ((x, a) :: s, t))) st := by
    intro m b r h1 h2 h3 h4
    have e1 : eL ((x, a) :: s, t) = eLr ((eN x, a) :: (m, b) :: r) := by rw [eL, lr_cons, h1]
    rw [e1, eL, h4]
    simp only [f30, v_con, v_var, v_peek, v_glob, v_tup, v_lst, v_cellL, v_bin, v_cmp, v_chain, v_and, v_or, v_not, v_ite, v_idx, v_slice, v_rev, v_call, v_prim, v_meth, v_neg, evEs, evAs, evA, evI, evT, evIt, evB_cons, evB_nil, s_ite, s_ret, s_set, s_expr, s_raise, s_freeze, s_setT, s_put, s_par, s_for, p_ok, b_ok, b_ra, t_ok, t_ra, l_ok, cm_ok, q_nx, q_ret, q_ra, c_t, c_f, tr_bl, f_ret, f_nx, f_ra, nx_some, varD, peekD, setO, List.getElem?_cons_zero, List.getElem?_cons_succ, List.cons_append, List.nil_append, List.append_nil, List.replicate, Nat.sub_self, List.set_cons_zero, List.set_cons_succ, List.length_cons, List.length_nil, Option.map_some, Option.map_none, Option.bind_some, if_true, reduceIte, Nat.reduceAdd, Nat.reduceLT, Nat.reduceSub, Bool.not_true, Bool.not_false, Bool.false_eq_true, Bool.false_and, Bool.true_and, Bool.and_false, Bool.and_true, intO, ceq, cne, cge, cgt, cle, clt, cin, cnin, nb, reduceCtorEq, decide_true, decide_false, mt0, mt1, mt2, mt3, ml0, ml1, ml2, ml3, Int.reduceNeg, setOs, if_false, bt_name, bt2, bt3, bt4, eLr_i1, eLr_i2, eLr_s2, rowF_0, rowF_1, eT_add (a := b) (n := .pt x a) (d := .tup [eN x, eT a]) (by rw [eNd_pt]; rfl) (by omega), eLr_add (a := (m, b ++ [.pt x a])) (r := r) (d := .tup [m, eT (b ++ [.pt x a])]) rfl (by omega)]
  cases s with
  | nil => exact key (.str []) t [] rfl h.2.2 (by simp) rfl
  | cons q s =>
    obtain ⟨y, b⟩ := q
    refine key (eN y) b (lr (s, t)) rfl (h.2.1 (y, b) (by simp)) ?_ rfl
    have := h.1
    rw [lr_len]
    simp at this ⊢
    omega
theorem w_law_put {l : Lr} {N : Nat} {nd : Nd} {d : D} (hd : d = eNd nd) (h : LOk N l) (hN : N ≤ 900000) : callN prog W (n + 1) 31 [.val (eL l), .val d] st = .ok (eL (lput l nd)) st := by
  rw [call_def (d := f31) rfl rfl rfl]
  obtain ⟨s, t⟩ := l
  have key : ∀ (m : D) (b : List Nd) (r : List (D × List Nd)), lr (s, t) = (m, b) :: r → b.length ≤ N → r.length ≤ 1000 → lr (lput (s, t) nd) = (m, b ++ [nd]) :: r →
      (evB prog.globs (callN prog W n) W (match f31.body with | .stmts b => b | _ => []) ([Sl.val (eL (s, t)), .val d] ++ List.replicate 0 .non) st).fin = .ok (eL (lput (s, t) nd)) st := by
    intro m b r h1 h2 h3 h4
    have e1 : eL (s, t) = eLr ((m, b) :: r) := by rw [eL, h1]
    rw [e1, eL, h4]
    simp only [f31, v_con, v_var, v_peek, v_glob, v_tup, v_lst, v_cellL, v_bin, v_cmp, v_chain, v_and, v_or, v_not, v_ite, v_idx, v_slice, v_rev, v_call, v_prim, v_meth, v_neg, evEs, evAs, evA, evI, evT, evIt, evB_cons, evB_nil, s_ite, s_ret, s_set, s_expr, s_raise, s_freeze, s_setT, s_put, s_par, s_for, p_ok, b_ok, b_ra, t_ok, t_ra, l_ok, cm_ok, q_nx, q_ret, q_ra, c_t, c_f, tr_bl, f_ret, f_nx, f_ra, nx_some, varD, peekD, setO, List.getElem?_cons_zero, List.getElem?_cons_succ, List.cons_append, List.nil_append, List.append_nil, List.replicate, Nat.sub_self, List.set_cons_zero, List.set_cons_succ, List.length_cons, List.length_nil, Option.map_some, Option.map_none, Option.bind_some, if_true, reduceIte, Nat.reduceAdd, Nat.reduceLT, Nat.reduceSub, Bool.not_true, Bool.not_false, Bool.false_eq_true, Bool.false_and, Bool.true_and, Bool.and_false, Bool.and_true, intO, ceq, cne, cge, cgt, cle, clt, cin, cnin, nb, reduceCtorEq, decide_true, decide_false, mt0, mt1, mt2, mt3, ml0, ml1, ml2, ml3, Int.reduceNeg, setOs, if_false, bt_name, bt2, bt3, bt4, eLr_i1, eLr_s1, rowF_0, rowF_1, eT_add (a := b) (n := nd) (d := d) hd (by omega), eLr_add (a := (m, b ++ [nd])) (r := r) (d := .tup [m, eT (b ++ [nd])]) rfl (by omega)]
  cases s with
  | nil => exact key (.str []) t [] rfl h.2.2 (by simp) rfl
  | cons q s =>
    obtain ⟨y, b⟩ := q
    refine key (eN y) b (lr (s, t)) rfl (h.2.1 (y, b) (by simp)) ?_ rfl
    have := h.1
    rw [lr_len]
    simp at this ⊢
    omega
theorem l_law_taken {s0 s2 s3 s4 s5 s6 s7 s9 : Sl} {x : Nat} : ∀ (p : Pile) (l : Lr) (N fuel : Nat), names l = p → x ∈ p → LOk N l → N + p.length ≤ 900000 → p.length < fuel →
    whileL (fun ρ' st' => (evE prog.globs (callN prog W (n + 1)) (.cmp .ne (.idx (.idx (.var 1) (.neg (.con (.int 1)))) (.con (.int 0))) (.var 8)) ρ' st').bind fun x st1 => lift (truth x) st1) (fun ρ' st' => evB prog.globs (callN prog W (n + 1)) W f32b0 ρ' st') fuel
      [s0, .val (eL l), s2, s3, s4, s5, s6, s7, .val (eN x), s9] st = .nx [s0, .val (eL (lapps l ((p.take (p.idxOf x)).map .cl))), s2, s3, s4, s5, s6, s7, .val (eN x), s9] st
  | [], l, N, fuel, _, hx, _, _, _ => by simp at hx
  | y :: q, l, N, 0, _, _, _, _, hf => by omega
  | y :: q, l, N, fuel + 1, hl, hx, hN, hle, hf => by
    obtain ⟨_ | ⟨⟨y', a⟩, s⟩, t⟩ := l
    · simp [names] at hl
    · obtain ⟨rfl, hq⟩ : y' = y ∧ names (s, t) = q := by simpa [names] using hl
      by_cases e : y' = x
      · subst e
        rw [wl_f (st1 := st)]
        · simp [List.idxOf_cons, lapps]
        · simp only [v_con, v_var, v_peek, v_glob, v_tup, v_lst, v_cellL, v_bin, v_cmp, v_chain, v_and, v_or, v_not, v_ite, v_idx, v_slice, v_rev, v_call, v_prim, v_meth, v_neg, evEs, evAs, evA, evI, evT, evIt, evB_cons, evB_nil, s_ite, s_ret, s_set, s_expr, s_raise, s_freeze, s_setT, s_put, s_par, s_for, p_ok, b_ok, b_ra, t_ok, t_ra, l_ok, cm_ok, q_nx, q_ret, q_ra, c_t, c_f, tr_bl, f_ret, f_nx, f_ra, nx_some, varD, peekD, setO, List.getElem?_cons_zero, List.getElem?_cons_succ, List.cons_append, List.nil_append, List.append_nil, List.replicate, Nat.sub_self, List.set_cons_zero, List.set_cons_succ, List.length_cons, List.length_nil, Option.map_some, Option.map_none, Option.bind_some, if_true, reduceIte, Nat.reduceAdd, Nat.reduceLT, Nat.reduceSub, Bool.not_true, Bool.not_false, Bool.false_eq_true, Bool.false_and, Bool.true_and, Bool.and_false, Bool.and_true, intO, ceq, cne, cge, cgt, cle, clt, cin, cnin, nb, reduceCtorEq, decide_true, decide_false, mt0, mt1, mt2, mt3, ml0, ml1, ml2, ml3, Int.reduceNeg, setOs, if_false, bt_name, bt2, bt3, bt4, eL_top, rowF_0, eN_eq, l_ok, b_ok]
      · have hx2 : x ∈ q := (List.mem_cons.mp hx).resolve_left fun z => e z.symm
        have e3 : (y' == x) = false := by simpa using e
        have nm : names (lshut ((y', a) :: s, t)) = q := by rw [names_lshut]; exact hq
        rw [wl_t (st1 := st) (ρ2 := [s0, .val (eL (lshut ((y', a) :: s, t))), s2, s3, s4, s5, s6, s7, .val (eN x), s9]) (st2 := st), l_law_taken q (lshut ((y', a) :: s, t)) (N + 1) fuel nm hx2 (lshut_ok hN) (by simp at hle; omega) (by simp at hf; omega)]
        · rw [List.idxOf_cons, e3]
          rfl
        · simp only [v_con, v_var, v_peek, v_glob, v_tup, v_lst, v_cellL, v_bin, v_cmp, v_chain, v_and, v_or, v_not, v_ite, v_idx, v_slice, v_rev, v_call, v_prim, v_meth, v_neg, evEs, evAs, evA, evI, evT, evIt, evB_cons, evB_nil, s_ite, s_ret, s_set, s_expr, s_raise, s_freeze, s_setT, s_put, s_par, s_for, p_ok, b_ok, b_ra, t_ok, t_ra, l_ok, cm_ok, q_nx, q_ret, q_ra, c_t, c_f, tr_bl, f_ret, f_nx, f_ra, nx_some, varD, peekD, setO, List.getElem?_cons_zero, List.getElem?_cons_succ, List.cons_append, List.nil_append, List.append_nil, List.replicate, Nat.sub_self, List.set_cons_zero, List.set_cons_succ, List.length_cons, List.length_nil, Option.map_some, Option.map_none, Option.bind_some, if_true, reduceIte, Nat.reduceAdd, Nat.reduceLT, Nat.reduceSub, Bool.not_true, Bool.not_false, Bool.false_eq_true, Bool.false_and, Bool.true_and, Bool.and_false, Bool.and_true, intO, ceq, cne, cge, cgt, cle, clt, cin, cnin, nb, reduceCtorEq, decide_true, decide_false, mt0, mt1, mt2, mt3, ml0, ml1, ml2, ml3, Int.reduceNeg, setOs, if_false, bt_name, bt2, bt3, bt4, eL_top, rowF_0, eN_eq, e, l_ok, b_ok]
        · simp only [f32b0, v_con, v_var, v_peek, v_glob, v_tup, v_lst, v_cellL, v_bin, v_cmp, v_chain, v_and, v_or, v_not, v_ite, v_idx, v_slice, v_rev, v_call, v_prim, v_meth, v_neg, evEs, evAs, evA, evI, evT, evIt, evB_cons, evB_nil, s_ite, s_ret, s_set, s_expr, s_raise, s_freeze, s_setT, s_put, s_par, s_for, p_ok, b_ok, b_ra, t_ok, t_ra, l_ok, cm_ok, q_nx, q_ret, q_ra, c_t, c_f, tr_bl, f_ret, f_nx, f_ra, nx_some, varD, peekD, setO, List.getElem?_cons_zero, List.getElem?_cons_succ, List.cons_append, List.nil_append, List.append_nil, List.replicate, Nat.sub_self, List.set_cons_zero, List.set_cons_succ, List.length_cons, List.length_nil, Option.map_some, Option.map_none, Option.bind_some, if_true, reduceIte, Nat.reduceAdd, Nat.reduceLT, Nat.reduceSub, Bool.not_true, Bool.not_false, Bool.false_eq_true, Bool.false_and, Bool.true_and, Bool.and_false, Bool.and_true, intO, ceq, cne, cge, cgt, cle, clt, cin, cnin, nb, reduceCtorEq, decide_true, decide_false, mt0, mt1, mt2, mt3, ml0, ml1, ml2, ml3, Int.reduceNeg, setOs, if_false, bt_name, bt2, bt3, bt4, w_law_shut (n := n) (l := ((y', a) :: s, t)) (by simp) hN (by omega)]
theorem w_law_taken {l : Lr} {m : Mk} {N : Nat} (hp : POk r.ks.length (names l)) (hm : MOk r.ks.length m) (hr : r.Ok) (hd : (names l).length ≤ r.d) (h : LOk N l) (hN : N ≤ 800000) : callN prog W (n + 3) 32 [.val (eR r), .val (eL l), .val (eM m)] st = .ok (eL (lapps l (step r (names l) m).2)) st := by
  have hd3 := hr.d3
  have h3 := hr.n3
  have hnl := @names_len l
  have hE : evE prog.globs (callN prog W (n + 2)) f32c0 [.val (eR r), .val (eL l), .val (eM m), .val (.tup (r.ks.map eK)), .val (eH r.h), .val (.int r.d), .non, .non, .non, .non] st = .ok (eNl (names l)) st := by
    have e2 : eNl (names l) = .lst (((l.1.map (fun q => (eN q.1, q.2))).reverse.map rowF).map fun q => match q with | .tup [a, _] => a | _ => .non) := by
      simp [eNl, names, rowF, Function.comp_def]
    rw [e2]
    refine e_map _ (v := .lst ((l.1.map (fun q => (eN q.1, q.2))).reverse.map rowF)) ?_ rfl (fun y hy => ?_) (by simp) (by simp; exact line_le' (b := 1000) (by omega) (by omega))
    · simp only [v_con, v_var, v_peek, v_glob, v_tup, v_lst, v_cellL, v_bin, v_cmp, v_chain, v_and, v_or, v_not, v_ite, v_idx, v_slice, v_rev, v_call, v_prim, v_meth, v_neg, evEs, evAs, evA, evI, evT, evIt, evB_cons, evB_nil, s_ite, s_ret, s_set, s_expr, s_raise, s_freeze, s_setT, s_put, s_par, s_for, p_ok, b_ok, b_ra, t_ok, t_ra, l_ok, cm_ok, q_nx, q_ret, q_ra, c_t, c_f, tr_bl, f_ret, f_nx, f_ra, nx_some, varD, peekD, setO, List.getElem?_cons_zero, List.getElem?_cons_succ, List.cons_append, List.nil_append, List.append_nil, List.replicate, Nat.sub_self, List.set_cons_zero, List.set_cons_succ, List.length_cons, List.length_nil, Option.map_some, Option.map_none, Option.bind_some, if_true, reduceIte, Nat.reduceAdd, Nat.reduceLT, Nat.reduceSub, Bool.not_true, Bool.not_false, Bool.false_eq_true, Bool.false_and, Bool.true_and, Bool.and_false, Bool.and_true, intO, ceq, cne, cge, cgt, cle, clt, cin, cnin, nb, reduceCtorEq, decide_true, decide_false, mt0, mt1, mt2, mt3, ml0, ml1, ml2, ml3, Int.reduceNeg, setOs, if_false, bt_name, bt2, bt3, bt4, eL_tail]
    · obtain ⟨q, _, rfl⟩ := List.mem_map.mp hy
      simp only [v_con, v_var, v_peek, v_glob, v_tup, v_lst, v_cellL, v_bin, v_cmp, v_chain, v_and, v_or, v_not, v_ite, v_idx, v_slice, v_rev, v_call, v_prim, v_meth, v_neg, evEs, evAs, evA, evI, evT, evIt, evB_cons, evB_nil, s_ite, s_ret, s_set, s_expr, s_raise, s_freeze, s_setT, s_put, s_par, s_for, p_ok, b_ok, b_ra, t_ok, t_ra, l_ok, cm_ok, q_nx, q_ret, q_ra, c_t, c_f, tr_bl, f_ret, f_nx, f_ra, nx_some, varD, peekD, setO, List.getElem?_cons_zero, List.getElem?_cons_succ, List.cons_append, List.nil_append, List.append_nil, List.replicate, Nat.sub_self, List.set_cons_zero, List.set_cons_succ, List.length_cons, List.length_nil, Option.map_some, Option.map_none, Option.bind_some, if_true, reduceIte, Nat.reduceAdd, Nat.reduceLT, Nat.reduceSub, Bool.not_true, Bool.not_false, Bool.false_eq_true, Bool.false_and, Bool.true_and, Bool.and_false, Bool.and_true, intO, ceq, cne, cge, cgt, cle, clt, cin, cnin, nb, reduceCtorEq, decide_true, decide_false, mt0, mt1, mt2, mt3, ml0, ml1, ml2, ml3, Int.reduceNeg, setOs, if_false, bt_name, bt2, bt3, bt4, rowF_0]
      rfl
  rw [call_def (d := f32) rfl rfl rfl]
  unfold Rdr.step
  cases hraw : r.raw (names l) with
  | true =>
    rw [if_pos rfl]
    cases hnm : names l with
    | nil => rw [hnm] at hraw; simp [R.raw] at hraw
    | cons x q =>
      have hne : l.1 ≠ [] := fun z => by simp [names, z] at hnm
      have hraw' := w_law_is_raw (n := n) (st := st) (.inl rfl) hp h3 (by omega)
      rw [hraw] at hraw'
      dsimp only
      have mid : ∃ v, sliceD (eM m) (some (-2)) (some (-1)) = some v := by
        rcases m with _ | ⟨a, y, b⟩
        · exact ⟨_, eM_midd⟩
        · exact ⟨_, eM_mid⟩
      obtain ⟨v, mid⟩ := mid
      by_cases hc : m = .m false x false
      · rw [if_pos hc, lap_cl]
        rw [hnm] at hraw' hE
        subst hc
        have ec : eqD (eM (.m false x false)) (.str [97 + x, 45]) = some true := by rw [eM_close]; simp
        simp only [f32, hE, v_con, v_var, v_peek, v_glob, v_tup, v_lst, v_cellL, v_bin, v_cmp, v_chain, v_and, v_or, v_not, v_ite, v_idx, v_slice, v_rev, v_call, v_prim, v_meth, v_neg, evEs, evAs, evA, evI, evT, evIt, evB_cons, evB_nil, s_ite, s_ret, s_set, s_expr, s_raise, s_freeze, s_setT, s_put, s_par, s_for, p_ok, b_ok, b_ra, t_ok, t_ra, l_ok, cm_ok, q_nx, q_ret, q_ra, c_t, c_f, tr_bl, f_ret, f_nx, f_ra, nx_some, varD, peekD, setO, List.getElem?_cons_zero, List.getElem?_cons_succ, List.cons_append, List.nil_append, List.append_nil, List.replicate, Nat.sub_self, List.set_cons_zero, List.set_cons_succ, List.length_cons, List.length_nil, Option.map_some, Option.map_none, Option.bind_some, if_true, reduceIte, Nat.reduceAdd, Nat.reduceLT, Nat.reduceSub, Bool.not_true, Bool.not_false, Bool.false_eq_true, Bool.false_and, Bool.true_and, Bool.and_false, Bool.and_true, intO, ceq, cne, cge, cgt, cle, clt, cin, cnin, nb, reduceCtorEq, decide_true, decide_false, mt0, mt1, mt2, mt3, ml0, ml1, ml2, ml3, Int.reduceNeg, setOs, if_false, bt_name, bt2, bt3, bt4, bt_R, mid, hraw', eNl_idx, eN_add, ec, w_law_shut (n := n + 1) hne h (by omega)]
      · rw [if_neg hc, lap_sg]
        rw [hnm] at hraw' hE
        simp only [f32, hE, v_con, v_var, v_peek, v_glob, v_tup, v_lst, v_cellL, v_bin, v_cmp, v_chain, v_and, v_or, v_not, v_ite, v_idx, v_slice, v_rev, v_call, v_prim, v_meth, v_neg, evEs, evAs, evA, evI, evT, evIt, evB_cons, evB_nil, s_ite, s_ret, s_set, s_expr, s_raise, s_freeze, s_setT, s_put, s_par, s_for, p_ok, b_ok, b_ra, t_ok, t_ra, l_ok, cm_ok, q_nx, q_ret, q_ra, c_t, c_f, tr_bl, f_ret, f_nx, f_ra, nx_some, varD, peekD, setO, List.getElem?_cons_zero, List.getElem?_cons_succ, List.cons_append, List.nil_append, List.append_nil, List.replicate, Nat.sub_self, List.set_cons_zero, List.set_cons_succ, List.length_cons, List.length_nil, Option.map_some, Option.map_none, Option.bind_some, if_true, reduceIte, Nat.reduceAdd, Nat.reduceLT, Nat.reduceSub, Bool.not_true, Bool.not_false, Bool.false_eq_true, Bool.false_and, Bool.true_and, Bool.and_false, Bool.and_true, intO, ceq, cne, cge, cgt, cle, clt, cin, cnin, nb, reduceCtorEq, decide_true, decide_false, mt0, mt1, mt2, mt3, ml0, ml1, ml2, ml3, Int.reduceNeg, setOs, if_false, bt_name, bt2, bt3, bt4, bt_R, mid, hraw', eNl_idx, eN_add, eM_close, hc, meth_rep, eM_rep, w_law_put (n := n + 1) (nd := .sg (sgn m)) (d := eS (sgn m)) (by rw [eNd_sg]) h (by omega)]
  | false =>
    have hraw' := w_law_is_raw (n := n) (st := st) (.inl rfl) hp h3 (by omega)
    rw [hraw] at hraw'
    rw [if_neg (by simp)]
    rcases m with _ | ⟨_ | _, x, _ | _⟩
    · rw [lap_sg]
      simp only [f32, hE, v_con, v_var, v_peek, v_glob, v_tup, v_lst, v_cellL, v_bin, v_cmp, v_chain, v_and, v_or, v_not, v_ite, v_idx, v_slice, v_rev, v_call, v_prim, v_meth, v_neg, evEs, evAs, evA, evI, evT, evIt, evB_cons, evB_nil, s_ite, s_ret, s_set, s_expr, s_raise, s_freeze, s_setT, s_put, s_par, s_for, p_ok, b_ok, b_ra, t_ok, t_ra, l_ok, cm_ok, q_nx, q_ret, q_ra, c_t, c_f, tr_bl, f_ret, f_nx, f_ra, nx_some, varD, peekD, setO, List.getElem?_cons_zero, List.getElem?_cons_succ, List.cons_append, List.nil_append, List.append_nil, List.replicate, Nat.sub_self, List.set_cons_zero, List.set_cons_succ, List.length_cons, List.length_nil, Option.map_some, Option.map_none, Option.bind_some, if_true, reduceIte, Nat.reduceAdd, Nat.reduceLT, Nat.reduceSub, Bool.not_true, Bool.not_false, Bool.false_eq_true, Bool.false_and, Bool.true_and, Bool.and_false, Bool.and_true, intO, ceq, cne, cge, cgt, cle, clt, cin, cnin, nb, reduceCtorEq, decide_true, decide_false, mt0, mt1, mt2, mt3, ml0, ml1, ml2, ml3, Int.reduceNeg, setOs, if_false, bt_name, bt2, bt3, bt4, bt_R, eM_midd, hraw', eM_dot, meth_rep, eM_rep, sgn, w_law_put (n := n + 1) (nd := .sg .dot) (d := eS .dot) (by rw [eNd_sg]) h (by omega)]
    · have hx : x < r.ks.length := hm
      have e1 : eqD (.str [pm false]) (.str [43]) = some false := rfl
      show _ = Res.ok (eL (lapps l ((closed r (names l) x).2))) st
      by_cases hv : r.kind x = .void
      · have hm0 : many r (names l) x = 0 := by simp [many, hv]
        have kv : eqD (eK (r.kind x)) (.str [118, 111, 105, 100]) = some true := by rw [eK_void, decide_eq_true hv]
        simp only [f32, hE, v_con, v_var, v_peek, v_glob, v_tup, v_lst, v_cellL, v_bin, v_cmp, v_chain, v_and, v_or, v_not, v_ite, v_idx, v_slice, v_rev, v_call, v_prim, v_meth, v_neg, evEs, evAs, evA, evI, evT, evIt, evB_cons, evB_nil, s_ite, s_ret, s_set, s_expr, s_raise, s_freeze, s_setT, s_put, s_par, s_for, p_ok, b_ok, b_ra, t_ok, t_ra, l_ok, cm_ok, q_nx, q_ret, q_ra, c_t, c_f, tr_bl, f_ret, f_nx, f_ra, nx_some, varD, peekD, setO, List.getElem?_cons_zero, List.getElem?_cons_succ, List.cons_append, List.nil_append, List.append_nil, List.replicate, Nat.sub_self, List.set_cons_zero, List.set_cons_succ, List.length_cons, List.length_nil, Option.map_some, Option.map_none, Option.bind_some, if_true, reduceIte, Nat.reduceAdd, Nat.reduceLT, Nat.reduceSub, Bool.not_true, Bool.not_false, Bool.false_eq_true, Bool.false_and, Bool.true_and, Bool.and_false, Bool.and_true, intO, ceq, cne, cge, cgt, cle, clt, cin, cnin, nb, reduceCtorEq, decide_true, decide_false, mt0, mt1, mt2, mt3, ml0, ml1, ml2, ml3, Int.reduceNeg, setOs, if_false, bt_name, bt2, bt3, bt4, bt_R, eM_mid, hraw', eM_dot, eM_cutf, eN_amp, eM_1f, e1, w_law_kind (n := n + 1) hx h3, kv, closed, hm0]
        rfl
      · have kv : eqD (eK (r.kind x)) (.str [118, 111, 105, 100]) = some false := by rw [eK_void, decide_eq_false hv]
        cases hnm : names l with
        | nil =>
          have hm0 : many r [] x = 0 := by simp [many]
          rw [hnm] at hE hraw'
          simp only [f32, hE, v_con, v_var, v_peek, v_glob, v_tup, v_lst, v_cellL, v_bin, v_cmp, v_chain, v_and, v_or, v_not, v_ite, v_idx, v_slice, v_rev, v_call, v_prim, v_meth, v_neg, evEs, evAs, evA, evI, evT, evIt, evB_cons, evB_nil, s_ite, s_ret, s_set, s_expr, s_raise, s_freeze, s_setT, s_put, s_par, s_for, p_ok, b_ok, b_ra, t_ok, t_ra, l_ok, cm_ok, q_nx, q_ret, q_ra, c_t, c_f, tr_bl, f_ret, f_nx, f_ra, nx_some, varD, peekD, setO, List.getElem?_cons_zero, List.getElem?_cons_succ, List.cons_append, List.nil_append, List.append_nil, List.replicate, Nat.sub_self, List.set_cons_zero, List.set_cons_succ, List.length_cons, List.length_nil, Option.map_some, Option.map_none, Option.bind_some, if_true, reduceIte, Nat.reduceAdd, Nat.reduceLT, Nat.reduceSub, Bool.not_true, Bool.not_false, Bool.false_eq_true, Bool.false_and, Bool.true_and, Bool.and_false, Bool.and_true, intO, ceq, cne, cge, cgt, cle, clt, cin, cnin, nb, reduceCtorEq, decide_true, decide_false, mt0, mt1, mt2, mt3, ml0, ml1, ml2, ml3, Int.reduceNeg, setOs, if_false, bt_name, bt2, bt3, bt4, bt_R, eM_mid, hraw', eM_dot, eM_cutf, eN_amp, eM_1f, e1, w_law_kind (n := n + 1) hx h3, kv, eNl_nilB, List.isEmpty_nil, closed, hm0]
          rfl
        | cons y q =>
          have hne : l.1 ≠ [] := fun z => by simp [names, z] at hnm
          rw [hnm] at hE hraw'
          by_cases h1 : y = x ∨ r.h = .top
          · have hm1 : many r (y :: q) x = 1 := by simp [many, hv, h1]
            have key : lapps l (closed r (y :: q) x).2 = lshut l := by rw [closed, hm1]; rfl
            rw [key]
            by_cases hy : y = x
            · have ey : eqD (eN y) (eN x) = some true := by rw [eN_eq, decide_eq_true hy]
              simp only [f32, hE, v_con, v_var, v_peek, v_glob, v_tup, v_lst, v_cellL, v_bin, v_cmp, v_chain, v_and, v_or, v_not, v_ite, v_idx, v_slice, v_rev, v_call, v_prim, v_meth, v_neg, evEs, evAs, evA, evI, evT, evIt, evB_cons, evB_nil, s_ite, s_ret, s_set, s_expr, s_raise, s_freeze, s_setT, s_put, s_par, s_for, p_ok, b_ok, b_ra, t_ok, t_ra, l_ok, cm_ok, q_nx, q_ret, q_ra, c_t, c_f, tr_bl, f_ret, f_nx, f_ra, nx_some, varD, peekD, setO, List.getElem?_cons_zero, List.getElem?_cons_succ, List.cons_append, List.nil_append, List.append_nil, List.replicate, Nat.sub_self, List.set_cons_zero, List.set_cons_succ, List.length_cons, List.length_nil, Option.map_some, Option.map_none, Option.bind_some, if_true, reduceIte, Nat.reduceAdd, Nat.reduceLT, Nat.reduceSub, Bool.not_true, Bool.not_false, Bool.false_eq_true, Bool.false_and, Bool.true_and, Bool.and_false, Bool.and_true, intO, ceq, cne, cge, cgt, cle, clt, cin, cnin, nb, reduceCtorEq, decide_true, decide_false, mt0, mt1, mt2, mt3, ml0, ml1, ml2, ml3, Int.reduceNeg, setOs, if_false, bt_name, bt2, bt3, bt4, bt_R, eM_mid, hraw', eM_dot, eM_cutf, eN_amp, eM_1f, e1, w_law_kind (n := n + 1) hx h3, kv, eNl_nilB, List.isEmpty_cons, eNl_idx, ey, w_law_shut (n := n + 1) hne h (by omega)]
            · have ht : r.h = .top := h1.resolve_left hy
              have ey : eqD (eN y) (eN x) = some false := by rw [eN_eq, decide_eq_false hy]
              have et : eqD (eH r.h) (.str [116, 111, 112]) = some true := by rw [eH_top, decide_eq_true ht]
              simp only [f32, hE, v_con, v_var, v_peek, v_glob, v_tup, v_lst, v_cellL, v_bin, v_cmp, v_chain, v_and, v_or, v_not, v_ite, v_idx, v_slice, v_rev, v_call, v_prim, v_meth, v_neg, evEs, evAs, evA, evI, evT, evIt, evB_cons, evB_nil, s_ite, s_ret, s_set, s_expr, s_raise, s_freeze, s_setT, s_put, s_par, s_for, p_ok, b_ok, b_ra, t_ok, t_ra, l_ok, cm_ok, q_nx, q_ret, q_ra, c_t, c_f, tr_bl, f_ret, f_nx, f_ra, nx_some, varD, peekD, setO, List.getElem?_cons_zero, List.getElem?_cons_succ, List.cons_append, List.nil_append, List.append_nil, List.replicate, Nat.sub_self, List.set_cons_zero, List.set_cons_succ, List.length_cons, List.length_nil, Option.map_some, Option.map_none, Option.bind_some, if_true, reduceIte, Nat.reduceAdd, Nat.reduceLT, Nat.reduceSub, Bool.not_true, Bool.not_false, Bool.false_eq_true, Bool.false_and, Bool.true_and, Bool.and_false, Bool.and_true, intO, ceq, cne, cge, cgt, cle, clt, cin, cnin, nb, reduceCtorEq, decide_true, decide_false, mt0, mt1, mt2, mt3, ml0, ml1, ml2, ml3, Int.reduceNeg, setOs, if_false, bt_name, bt2, bt3, bt4, bt_R, eM_mid, hraw', eM_dot, eM_cutf, eN_amp, eM_1f, e1, w_law_kind (n := n + 1) hx h3, kv, eNl_nilB, List.isEmpty_cons, eNl_idx, ey, et, w_law_shut (n := n + 1) hne h (by omega)]
          · have hy : ¬ y = x := fun z => h1 (.inl z)
            have ht : ¬ r.h = .top := fun z => h1 (.inr z)
            have ey : eqD (eN y) (eN x) = some false := by rw [eN_eq, decide_eq_false hy]
            have et : eqD (eH r.h) (.str [116, 111, 112]) = some false := by rw [eH_top, decide_eq_false ht]
            by_cases h2 : r.h = .search ∧ x ∈ y :: q
            · have hm1 : many r (y :: q) x = (y :: q).idxOf x + 1 := by simp [many, hv, hy, ht, h2.1, (by simpa using h2.2 : x = y ∨ x ∈ q)]
              have lt : (y :: q).idxOf x < (y :: q).length := List.idxOf_lt_length_iff.mpr h2.2
              have le : (y :: q).length ≤ 3 := by rw [← hnm]; omega
              have nm := names_lapps_cl ((y :: q).take ((y :: q).idxOf x)) l
              have ok := lapps_cl_ok ((y :: q).take ((y :: q).idxOf x)) h
              rw [List.length_take] at nm ok
              have key : lapps l (closed r (y :: q) x).2 = lshut (lapps l (((y :: q).take ((y :: q).idxOf x)).map .cl)) := by
                rw [closed, hm1]
                dsimp only
                rw [List.take_succ_eq_append_getElem lt, List.map_append, lapps, List.foldl_append]
                rfl
              have hne2 : (lapps l (((y :: q).take ((y :: q).idxOf x)).map .cl)).1 ≠ [] := fun z => by
                have e := congrArg List.length nm
                rw [names_len, z, List.length_drop, hnm] at e
                simp only [List.length_nil] at e
                omega
              have hi : inD (eN x) (eNl (y :: q)) = some true := by rw [in_eNl]; simp [(by simpa using h2.2 : x = y ∨ x ∈ q)]
              have es : eqD (eH r.h) (.str [115, 101, 97, 114, 99, 104]) = some true := by rw [eH_search, decide_eq_true h2.1]
              have hW : evS prog.globs (callN prog W (n + 2)) W (.while (.cmp .ne (.idx (.idx (.var 1) (.neg (.con (.int 1)))) (.con (.int 0))) (.var 8)) f32b0) [.val (eR r), .val (eL l), .val (eM (.m false x false)), .val (.tup (r.ks.map eK)), .val (eH r.h), .val (.int r.d), .val (eNl (y :: q)), .non, .val (eN x), .val (eK (r.kind x))] st =
                  .nx [.val (eR r), .val (eL (lapps l (((y :: q).take ((y :: q).idxOf x)).map .cl))), .val (eM (.m false x false)), .val (.tup (r.ks.map eK)), .val (eH r.h), .val (.int r.d), .val (eNl (y :: q)), .non, .val (eN x), .val (eK (r.kind x))] st := by
                rw [s_while]
                exact l_law_taken (n := n + 1) (y :: q) l N W hnm h2.2 h (by omega) (by show _ < 5000000; omega)
              rw [key]
              simp only [f32, hE, v_con, v_var, v_peek, v_glob, v_tup, v_lst, v_cellL, v_bin, v_cmp, v_chain, v_and, v_or, v_not, v_ite, v_idx, v_slice, v_rev, v_call, v_prim, v_meth, v_neg, evEs, evAs, evA, evI, evT, evIt, evB_cons, evB_nil, s_ite, s_ret, s_set, s_expr, s_raise, s_freeze, s_setT, s_put, s_par, s_for, p_ok, b_ok, b_ra, t_ok, t_ra, l_ok, cm_ok, q_nx, q_ret, q_ra, c_t, c_f, tr_bl, f_ret, f_nx, f_ra, nx_some, varD, peekD, setO, List.getElem?_cons_zero, List.getElem?_cons_succ, List.cons_append, List.nil_append, List.append_nil, List.replicate, Nat.sub_self, List.set_cons_zero, List.set_cons_succ, List.length_cons, List.length_nil, Option.map_some, Option.map_none, Option.bind_some, if_true, reduceIte, Nat.reduceAdd, Nat.reduceLT, Nat.reduceSub, Bool.not_true, Bool.not_false, Bool.false_eq_true, Bool.false_and, Bool.true_and, Bool.and_false, Bool.and_true, intO, ceq, cne, cge, cgt, cle, clt, cin, cnin, nb, reduceCtorEq, decide_true, decide_false, mt0, mt1, mt2, mt3, ml0, ml1, ml2, ml3, Int.reduceNeg, setOs, if_false, bt_name, bt2, bt3, bt4, bt_R, eM_mid, hraw', eM_dot, eM_cutf, eN_amp, eM_1f, e1, w_law_kind (n := n + 1) hx h3, kv, eNl_nilB, List.isEmpty_cons, eNl_idx, ey, et, es, hi, hW, w_law_shut (n := n + 1) hne2 ok (by omega)]
            · have hm0 : many r (y :: q) x = 0 := by
                unfold many
                rw [if_neg (by simp [hv]), if_neg (by simpa using h1), if_neg h2]
              have key : lapps l (closed r (y :: q) x).2 = l := by rw [closed, hm0]; rfl
              rw [key]
              by_cases hs : r.h = .search
              · have hi : inD (eN x) (eNl (y :: q)) = some false := by
                  rw [in_eNl, decide_eq_false]
                  exact fun z => h2 ⟨hs, z⟩
                have es : eqD (eH r.h) (.str [115, 101, 97, 114, 99, 104]) = some true := by rw [eH_search, decide_eq_true hs]
                simp only [f32, hE, v_con, v_var, v_peek, v_glob, v_tup, v_lst, v_cellL, v_bin, v_cmp, v_chain, v_and, v_or, v_not, v_ite, v_idx, v_slice, v_rev, v_call, v_prim, v_meth, v_neg, evEs, evAs, evA, evI, evT, evIt, evB_cons, evB_nil, s_ite, s_ret, s_set, s_expr, s_raise, s_freeze, s_setT, s_put, s_par, s_for, p_ok, b_ok, b_ra, t_ok, t_ra, l_ok, cm_ok, q_nx, q_ret, q_ra, c_t, c_f, tr_bl, f_ret, f_nx, f_ra, nx_some, varD, peekD, setO, List.getElem?_cons_zero, List.getElem?_cons_succ, List.cons_append, List.nil_append, List.append_nil, List.replicate, Nat.sub_self, List.set_cons_zero, List.set_cons_succ, List.length_cons, List.length_nil, Option.map_some, Option.map_none, Option.bind_some, if_true, reduceIte, Nat.reduceAdd, Nat.reduceLT, Nat.reduceSub, Bool.not_true, Bool.not_false, Bool.false_eq_true, Bool.false_and, Bool.true_and, Bool.and_false, Bool.and_true, intO, ceq, cne, cge, cgt, cle, clt, cin, cnin, nb, reduceCtorEq, decide_true, decide_false, mt0, mt1, mt2, mt3, ml0, ml1, ml2, ml3, Int.reduceNeg, setOs, if_false, bt_name, bt2, bt3, bt4, bt_R, eM_mid, hraw', eM_dot, eM_cutf, eN_amp, eM_1f, e1, w_law_kind (n := n + 1) hx h3, kv, eNl_nilB, List.isEmpty_cons, eNl_idx, ey, et, es, hi]
              · have es : eqD (eH r.h) (.str [115, 101, 97, 114, 99, 104]) = some false := by rw [eH_search, decide_eq_false hs]
                simp only [f32, hE, v_con, v_var, v_peek, v_glob, v_tup, v_lst, v_cellL, v_bin, v_cmp, v_chain, v_and, v_or, v_not, v_ite, v_idx, v_slice, v_rev, v_call, v_prim, v_meth, v_neg, evEs, evAs, evA, evI, evT, evIt, evB_cons, evB_nil, s_ite, s_ret, s_set, s_expr, s_raise, s_freeze, s_setT, s_put, s_par, s_for, p_ok, b_ok, b_ra, t_ok, t_ra, l_ok, cm_ok, q_nx, q_ret, q_ra, c_t, c_f, tr_bl, f_ret, f_nx, f_ra, nx_some, varD, peekD, setO, List.getElem?_cons_zero, List.getElem?_cons_succ, List.cons_append, List.nil_append, List.append_nil, List.replicate, Nat.sub_self, List.set_cons_zero, List.set_cons_succ, List.length_cons, List.length_nil, Option.map_some, Option.map_none, Option.bind_some, if_true, reduceIte, Nat.reduceAdd, Nat.reduceLT, Nat.reduceSub, Bool.not_true, Bool.not_false, Bool.false_eq_true, Bool.false_and, Bool.true_and, Bool.and_false, Bool.and_true, intO, ceq, cne, cge, cgt, cle, clt, cin, cnin, nb, reduceCtorEq, decide_true, decide_false, mt0, mt1, mt2, mt3, ml0, ml1, ml2, ml3, Int.reduceNeg, setOs, if_false, bt_name, bt2, bt3, bt4, bt_R, eM_mid, hraw', eM_dot, eM_cutf, eN_amp, eM_1f, e1, w_law_kind (n := n + 1) hx h3, kv, eNl_nilB, List.isEmpty_cons, eNl_idx, ey, et, es]
    · have hx : x < r.ks.length := hm
      have e1 : eqD (.str [pm true]) (.str [43]) = some true := rfl
      show _ = Res.ok (eL (lapps l ((opened r (names l) x).2))) st
      unfold opened
      by_cases hv : r.kind x = .void
      · have kv : eqD (eK (r.kind x)) (.str [118, 111, 105, 100]) = some true := by rw [eK_void, decide_eq_true hv]
        rw [if_pos hv, lap_vd]
        simp only [f32, hE, v_con, v_var, v_peek, v_glob, v_tup, v_lst, v_cellL, v_bin, v_cmp, v_chain, v_and, v_or, v_not, v_ite, v_idx, v_slice, v_rev, v_call, v_prim, v_meth, v_neg, evEs, evAs, evA, evI, evT, evIt, evB_cons, evB_nil, s_ite, s_ret, s_set, s_expr, s_raise, s_freeze, s_setT, s_put, s_par, s_for, p_ok, b_ok, b_ra, t_ok, t_ra, l_ok, cm_ok, q_nx, q_ret, q_ra, c_t, c_f, tr_bl, f_ret, f_nx, f_ra, nx_some, varD, peekD, setO, List.getElem?_cons_zero, List.getElem?_cons_succ, List.cons_append, List.nil_append, List.append_nil, List.replicate, Nat.sub_self, List.set_cons_zero, List.set_cons_succ, List.length_cons, List.length_nil, Option.map_some, Option.map_none, Option.bind_some, if_true, reduceIte, Nat.reduceAdd, Nat.reduceLT, Nat.reduceSub, Bool.not_true, Bool.not_false, Bool.false_eq_true, Bool.false_and, Bool.true_and, Bool.and_false, Bool.and_true, intO, ceq, cne, cge, cgt, cle, clt, cin, cnin, nb, reduceCtorEq, decide_true, decide_false, mt0, mt1, mt2, mt3, ml0, ml1, ml2, ml3, Int.reduceNeg, setOs, if_false, bt_name, bt2, bt3, bt4, bt_R, eM_mid, hraw', eM_dot, eM_cutf, eN_amp, eM_1f, e1, w_law_kind (n := n + 1) hx h3, kv, w_law_put (n := n + 1) (nd := .pt x []) (d := .tup [eN x, .tup []]) (by rw [eNd_pt]; rfl) h (by omega)]
      · have kv : eqD (eK (r.kind x)) (.str [118, 111, 105, 100]) = some false := by rw [eK_void, decide_eq_false hv]
        rw [if_neg hv]
        obtain ⟨vt, ht1, ht2⟩ := eNl_top (p := names l) (x := x)
        have fin : ∀ (l2 : Lr), l2.1.length ≤ 1000 → ∀ st : Store, evE prog.globs (callN prog W (n + 2)) (.ite (.cmp .le (.prim .len (.var 1)) (.var 5)) (.bin .add (.var 1) (.lst [(.tup [(.var 8), (.tup [])])])) (.var 1)) [.val (eR r), .val (eL l2), .val (eM (.m false x true)), .val (.tup (r.ks.map eK)), .val (eH r.h), .val (.int r.d), .val (eNl (names l)), .non, .val (eN x), .val (eK (r.kind x))] st = .ok (eL (if r.d ≤ l2.1.length then l2 else ((x, []) :: l2.1, l2.2))) st := by
          intro l2 hl2 st
          by_cases hdd : r.d ≤ l2.1.length
          · have : ¬ ((l2.1.length : Int) + 1 ≤ (r.d : Int)) := by omega
            simp only [v_con, v_var, v_peek, v_glob, v_tup, v_lst, v_cellL, v_bin, v_cmp, v_chain, v_and, v_or, v_not, v_ite, v_idx, v_slice, v_rev, v_call, v_prim, v_meth, v_neg, evEs, evAs, evA, evI, evT, evIt, evB_cons, evB_nil, s_ite, s_ret, s_set, s_expr, s_raise, s_freeze, s_setT, s_put, s_par, s_for, p_ok, b_ok, b_ra, t_ok, t_ra, l_ok, cm_ok, q_nx, q_ret, q_ra, c_t, c_f, tr_bl, f_ret, f_nx, f_ra, nx_some, varD, peekD, setO, List.getElem?_cons_zero, List.getElem?_cons_succ, List.cons_append, List.nil_append, List.append_nil, List.replicate, Nat.sub_self, List.set_cons_zero, List.set_cons_succ, List.length_cons, List.length_nil, Option.map_some, Option.map_none, Option.bind_some, if_true, reduceIte, Nat.reduceAdd, Nat.reduceLT, Nat.reduceSub, Bool.not_true, Bool.not_false, Bool.false_eq_true, Bool.false_and, Bool.true_and, Bool.and_false, Bool.and_true, intO, ceq, cne, cge, cgt, cle, clt, cin, cnin, nb, reduceCtorEq, decide_true, decide_false, mt0, mt1, mt2, mt3, ml0, ml1, ml2, ml3, Int.reduceNeg, setOs, if_false, bt_name, bt2, bt3, bt4, eL_len, this, if_pos hdd]
          · have : ((l2.1.length : Int) + 1 ≤ (r.d : Int)) := by omega
            simp only [v_con, v_var, v_peek, v_glob, v_tup, v_lst, v_cellL, v_bin, v_cmp, v_chain, v_and, v_or, v_not, v_ite, v_idx, v_slice, v_rev, v_call, v_prim, v_meth, v_neg, evEs, evAs, evA, evI, evT, evIt, evB_cons, evB_nil, s_ite, s_ret, s_set, s_expr, s_raise, s_freeze, s_setT, s_put, s_par, s_for, p_ok, b_ok, b_ra, t_ok, t_ra, l_ok, cm_ok, q_nx, q_ret, q_ra, c_t, c_f, tr_bl, f_ret, f_nx, f_ra, nx_some, varD, peekD, setO, List.getElem?_cons_zero, List.getElem?_cons_succ, List.cons_append, List.nil_append, List.append_nil, List.replicate, Nat.sub_self, List.set_cons_zero, List.set_cons_succ, List.length_cons, List.length_nil, Option.map_some, Option.map_none, Option.bind_some, if_true, reduceIte, Nat.reduceAdd, Nat.reduceLT, Nat.reduceSub, Bool.not_true, Bool.not_false, Bool.false_eq_true, Bool.false_and, Bool.true_and, Bool.and_false, Bool.and_true, intO, ceq, cne, cge, cgt, cle, clt, cin, cnin, nb, reduceCtorEq, decide_true, decide_false, mt0, mt1, mt2, mt3, ml0, ml1, ml2, ml3, Int.reduceNeg, setOs, if_false, bt_name, bt2, bt3, bt4, eL_len, this, if_neg hdd, eL_push hl2]
        by_cases hs : r.kind x = .self ∧ (names l).head? = some x
        · rw [if_pos hs]
          rw [decide_eq_true hs.2] at ht2
          have hne : l.1 ≠ [] := fun z => by simp [names, z] at hs
          have hlen : (lshut l).1.length = (names l).tail.length := by rw [← names_len, names_lshut]
          have f2 := fin (lshut l) (lshut_ok h).1
          have key : lapps l (if r.d ≤ ((names l).tail, [Dd.cl x]).1.length then ((names l).tail, [Dd.cl x]) else (x :: ((names l).tail, [Dd.cl x]).1, ((names l).tail, [Dd.cl x]).2 ++ [.op x])).2 = (if r.d ≤ (lshut l).1.length then lshut l else ((x, []) :: (lshut l).1, (lshut l).2)) := by
            rw [hlen]
            by_cases hdd : r.d ≤ (names l).tail.length
            · rw [if_pos hdd, if_pos hdd]; rfl
            · rw [if_neg hdd, if_neg hdd]; rfl
          dsimp only at key ⊢
          rw [key]
          have ks : eqD (eK (r.kind x)) (.str [115, 101, 108, 102]) = some true := by rw [eK_self, decide_eq_true hs.1]
          simp only [f32, hE, f2, v_con, v_var, v_peek, v_glob, v_tup, v_lst, v_cellL, v_bin, v_cmp, v_chain, v_and, v_or, v_not, v_ite, v_idx, v_slice, v_rev, v_call, v_prim, v_meth, v_neg, evEs, evAs, evA, evI, evT, evIt, evB_cons, evB_nil, s_ite, s_ret, s_set, s_expr, s_raise, s_freeze, s_setT, s_put, s_par, s_for, p_ok, b_ok, b_ra, t_ok, t_ra, l_ok, cm_ok, q_nx, q_ret, q_ra, c_t, c_f, tr_bl, f_ret, f_nx, f_ra, nx_some, varD, peekD, setO, List.getElem?_cons_zero, List.getElem?_cons_succ, List.cons_append, List.nil_append, List.append_nil, List.replicate, Nat.sub_self, List.set_cons_zero, List.set_cons_succ, List.length_cons, List.length_nil, Option.map_some, Option.map_none, Option.bind_some, if_true, reduceIte, Nat.reduceAdd, Nat.reduceLT, Nat.reduceSub, Bool.not_true, Bool.not_false, Bool.false_eq_true, Bool.false_and, Bool.true_and, Bool.and_false, Bool.and_true, intO, ceq, cne, cge, cgt, cle, clt, cin, cnin, nb, reduceCtorEq, decide_true, decide_false, mt0, mt1, mt2, mt3, ml0, ml1, ml2, ml3, Int.reduceNeg, setOs, if_false, bt_name, bt2, bt3, bt4, bt_R, eM_mid, hraw', eM_dot, eM_cutf, eN_amp, eM_1f, e1, w_law_kind (n := n + 1) hx h3, kv, ks, ht1, ht2, w_law_shut (n := n + 1) hne h (by omega)]
        · rw [if_neg hs]
          have f2 := fin l h.1
          have key : lapps l (if r.d ≤ ((names l), ([] : List Dd)).1.length then ((names l), ([] : List Dd)) else (x :: ((names l), ([] : List Dd)).1, ((names l), ([] : List Dd)).2 ++ [.op x])).2 = (if r.d ≤ l.1.length then l else ((x, []) :: l.1, l.2)) := by
            rw [← hnl]
            by_cases hdd : r.d ≤ (names l).length
            · rw [if_pos hdd, if_pos hdd]; rfl
            · rw [if_neg hdd, if_neg hdd]; rfl
          dsimp only at key ⊢
          rw [key]
          by_cases hk : r.kind x = .self
          · rw [decide_eq_false fun z => hs ⟨hk, z⟩] at ht2
            have ks : eqD (eK (r.kind x)) (.str [115, 101, 108, 102]) = some true := by rw [eK_self, decide_eq_true hk]
            simp only [f32, hE, f2, v_con, v_var, v_peek, v_glob, v_tup, v_lst, v_cellL, v_bin, v_cmp, v_chain, v_and, v_or, v_not, v_ite, v_idx, v_slice, v_rev, v_call, v_prim, v_meth, v_neg, evEs, evAs, evA, evI, evT, evIt, evB_cons, evB_nil, s_ite, s_ret, s_set, s_expr, s_raise, s_freeze, s_setT, s_put, s_par, s_for, p_ok, b_ok, b_ra, t_ok, t_ra, l_ok, cm_ok, q_nx, q_ret, q_ra, c_t, c_f, tr_bl, f_ret, f_nx, f_ra, nx_some, varD, peekD, setO, List.getElem?_cons_zero, List.getElem?_cons_succ, List.cons_append, List.nil_append, List.append_nil, List.replicate, Nat.sub_self, List.set_cons_zero, List.set_cons_succ, List.length_cons, List.length_nil, Option.map_some, Option.map_none, Option.bind_some, if_true, reduceIte, Nat.reduceAdd, Nat.reduceLT, Nat.reduceSub, Bool.not_true, Bool.not_false, Bool.false_eq_true, Bool.false_and, Bool.true_and, Bool.and_false, Bool.and_true, intO, ceq, cne, cge, cgt, cle, clt, cin, cnin, nb, reduceCtorEq, decide_true, decide_false, mt0, mt1, mt2, mt3, ml0, ml1, ml2, ml3, Int.reduceNeg, setOs, if_false, bt_name, bt2, bt3, bt4, bt_R, eM_mid, hraw', eM_dot, eM_cutf, eN_amp, eM_1f, e1, w_law_kind (n := n + 1) hx h3, kv, ks, ht1, ht2]
          · have ks : eqD (eK (r.kind x)) (.str [115, 101, 108, 102]) = some false := by rw [eK_self, decide_eq_false hk]
            simp only [f32, hE, f2, v_con, v_var, v_peek, v_glob, v_tup, v_lst, v_cellL, v_bin, v_cmp, v_chain, v_and, v_or, v_not, v_ite, v_idx, v_slice, v_rev, v_call, v_prim, v_meth, v_neg, evEs, evAs, evA, evI, evT, evIt, evB_cons, evB_nil, s_ite, s_ret, s_set, s_expr, s_raise, s_freeze, s_setT, s_put, s_par, s_for, p_ok, b_ok, b_ra, t_ok, t_ra, l_ok, cm_ok, q_nx, q_ret, q_ra, c_t, c_f, tr_bl, f_ret, f_nx, f_ra, nx_some, varD, peekD, setO, List.getElem?_cons_zero, List.getElem?_cons_succ, List.cons_append, List.nil_append, List.append_nil, List.replicate, Nat.sub_self, List.set_cons_zero, List.set_cons_succ, List.length_cons, List.length_nil, Option.map_some, Option.map_none, Option.bind_some, if_true, reduceIte, Nat.reduceAdd, Nat.reduceLT, Nat.reduceSub, Bool.not_true, Bool.not_false, Bool.false_eq_true, Bool.false_and, Bool.true_and, Bool.and_false, Bool.and_true, intO, ceq, cne, cge, cgt, cle, clt, cin, cnin, nb, reduceCtorEq, decide_true, decide_false, mt0, mt1, mt2, mt3, ml0, ml1, ml2, ml3, Int.reduceNeg, setOs, if_false, bt_name, bt2, bt3, bt4, bt_R, eM_mid, hraw', eM_dot, eM_cutf, eN_amp, eM_1f, e1, w_law_kind (n := n + 1) hx h3, kv, ks]
    · rw [lap_sg]
      simp only [f32, hE, v_con, v_var, v_peek, v_glob, v_tup, v_lst, v_cellL, v_bin, v_cmp, v_chain, v_and, v_or, v_not, v_ite, v_idx, v_slice, v_rev, v_call, v_prim, v_meth, v_neg, evEs, evAs, evA, evI, evT, evIt, evB_cons, evB_nil, s_ite, s_ret, s_set, s_expr, s_raise, s_freeze, s_setT, s_put, s_par, s_for, p_ok, b_ok, b_ra, t_ok, t_ra, l_ok, cm_ok, q_nx, q_ret, q_ra, c_t, c_f, tr_bl, f_ret, f_nx, f_ra, nx_some, varD, peekD, setO, List.getElem?_cons_zero, List.getElem?_cons_succ, List.cons_append, List.nil_append, List.append_nil, List.replicate, Nat.sub_self, List.set_cons_zero, List.set_cons_succ, List.length_cons, List.length_nil, Option.map_some, Option.map_none, Option.bind_some, if_true, reduceIte, Nat.reduceAdd, Nat.reduceLT, Nat.reduceSub, Bool.not_true, Bool.not_false, Bool.false_eq_true, Bool.false_and, Bool.true_and, Bool.and_false, Bool.and_true, intO, ceq, cne, cge, cgt, cle, clt, cin, cnin, nb, reduceCtorEq, decide_true, decide_false, mt0, mt1, mt2, mt3, ml0, ml1, ml2, ml3, Int.reduceNeg, setOs, if_false, bt_name, bt2, bt3, bt4, bt_R, eM_mid, hraw', eM_dot, eM_cutt, amp_amp, meth_rep, eM_rep, sgn, w_law_put (n := n + 1) (nd := .sg (.s x false)) (d := eS (.s x false)) (by rw [eNd_sg]) h (by omega)]
    · rw [lap_sg]
      simp only [f32, hE, v_con, v_var, v_peek, v_glob, v_tup, v_lst, v_cellL, v_bin, v_cmp, v_chain, v_and, v_or, v_not, v_ite, v_idx, v_slice, v_rev, v_call, v_prim, v_meth, v_neg, evEs, evAs, evA, evI, evT, evIt, evB_cons, evB_nil, s_ite, s_ret, s_set, s_expr, s_raise, s_freeze, s_setT, s_put, s_par, s_for, p_ok, b_ok, b_ra, t_ok, t_ra, l_ok, cm_ok, q_nx, q_ret, q_ra, c_t, c_f, tr_bl, f_ret, f_nx, f_ra, nx_some, varD, peekD, setO, List.getElem?_cons_zero, List.getElem?_cons_succ, List.cons_append, List.nil_append, List.append_nil, List.replicate, Nat.sub_self, List.set_cons_zero, List.set_cons_succ, List.length_cons, List.length_nil, Option.map_some, Option.map_none, Option.bind_some, if_true, reduceIte, Nat.reduceAdd, Nat.reduceLT, Nat.reduceSub, Bool.not_true, Bool.not_false, Bool.false_eq_true, Bool.false_and, Bool.true_and, Bool.and_false, Bool.and_true, intO, ceq, cne, cge, cgt, cle, clt, cin, cnin, nb, reduceCtorEq, decide_true, decide_false, mt0, mt1, mt2, mt3, ml0, ml1, ml2, ml3, Int.reduceNeg, setOs, if_false, bt_name, bt2, bt3, bt4, bt_R, eM_mid, hraw', eM_dot, eM_cutt, amp_amp, meth_rep, eM_rep, sgn, w_law_put (n := n + 1) (nd := .sg (.s x true)) (d := eS (.s x true)) (by rw [eNd_sg]) h (by omega)]
theorem l_law_read {ts s4 s5 : Sl} (hr : r.Ok) : ∀ (ms : List Mk) (l : Lr) (N : Nat) (s3 : Sl), POk r.ks.length (names l) → (∀ m ∈ ms, MOk r.ks.length m) → (names l).length ≤ r.d → LOk N l → N + 5 * ms.length ≤ 800000 →
    ∃ s3', forL (.name 3) (evB prog.globs (callN prog W (n + 3)) W f33b0) (ms.map eM) [.val (eR r), ts, .val (eL l), s3, s4, s5] st = .nx [.val (eR r), ts, .val (eL (lapps l (run r (names l) ms).2)), s3', s4, s5] st ∧ LOk (N + 5 * ms.length) (lapps l (run r (names l) ms).2)
  | [], l, N, s3, _, _, _, h, _ => ⟨s3, by simp [fl_nil, run, lapps], by simpa [run, lapps] using h⟩
  | m :: ms, l, N, s3, hp, hm, hd, h, hN => by
    have hd3 := hr.d3
    have hm0 := hm m List.mem_cons_self
    have ⟨hs1, hs2⟩ := step_len (m := m) hd
    have ⟨hf1, hf2⟩ := step_fit r (names l) m
    have nm : names (lapps l (step r (names l) m).2) = (step r (names l) m).1 := by rw [(lapps_rows hf1).2, hf2]
    rw [List.length_cons] at hN
    have ok : LOk (N + 5) (lapps l (step r (names l) m).2) := (lapps_ok _ (by have := names_len (l := l); omega) h).mono (by omega)
    obtain ⟨s3', ih, ok2⟩ := l_law_read hr ms (lapps l (step r (names l) m).2) (N + 5) (.val (eM m)) (by rw [nm]; exact step_ok hp hm0) (fun x hx => hm x (List.mem_cons_of_mem _ hx)) (by rw [nm]; exact hs1) ok (by omega)
    rw [nm] at ih ok2
    refine ⟨s3', ?_, ?_⟩
    · rw [List.map_cons, fl_cons (ρ1 := [.val (eR r), ts, .val (eL l), .val (eM m), s4, s5]) (by rfl) (ρ2 := [.val (eR r), ts, .val (eL (lapps l (step r (names l) m).2)), .val (eM m), s4, s5]) (st2 := st), ih]
      · simp [run, lapps, List.foldl_append]
      · simp only [f33b0, v_con, v_var, v_peek, v_glob, v_tup, v_lst, v_cellL, v_bin, v_cmp, v_chain, v_and, v_or, v_not, v_ite, v_idx, v_slice, v_rev, v_call, v_prim, v_meth, v_neg, evEs, evAs, evA, evI, evT, evIt, evB_cons, evB_nil, s_ite, s_ret, s_set, s_expr, s_raise, s_freeze, s_setT, s_put, s_par, s_for, p_ok, b_ok, b_ra, t_ok, t_ra, l_ok, cm_ok, q_nx, q_ret, q_ra, c_t, c_f, tr_bl, f_ret, f_nx, f_ra, nx_some, varD, peekD, setO, List.getElem?_cons_zero, List.getElem?_cons_succ, List.cons_append, List.nil_append, List.append_nil, List.replicate, Nat.sub_self, List.set_cons_zero, List.set_cons_succ, List.length_cons, List.length_nil, Option.map_some, Option.map_none, Option.bind_some, if_true, reduceIte, Nat.reduceAdd, Nat.reduceLT, Nat.reduceSub, Bool.not_true, Bool.not_false, Bool.false_eq_true, Bool.false_and, Bool.true_and, Bool.and_false, Bool.and_true, intO, ceq, cne, cge, cgt, cle, clt, cin, cnin, nb, reduceCtorEq, decide_true, decide_false, mt0, mt1, mt2, mt3, ml0, ml1, ml2, ml3, Int.reduceNeg, setOs, if_false, bt_name, bt2, bt3, bt4, w_law_taken hp hm0 hr hd h (by omega)]
    · have e : lapps l (run r (names l) (m :: ms)).2 = lapps (lapps l (step r (names l) m).2) (run r (step r (names l) m).1 ms).2 := by simp [run, lapps, List.foldl_append]
      rw [e, List.length_cons, show N + 5 * (ms.length + 1) = N + 5 + 5 * ms.length by omega]
      exact ok2
theorem l_law_readw {s0 s1 s3 s4 s5 : Sl} : ∀ (p : Pile) (l : Lr) (N fuel : Nat), names l = p → LOk N l → N + p.length ≤ 900000 → p.length < fuel →
    whileL (fun ρ' st' => (evE prog.globs (callN prog W (n + 1)) (.cmp .gt (.prim .len (.var 2)) (.con (.int 1))) ρ' st').bind fun x st1 => lift (truth x) st1) (fun ρ' st' => evB prog.globs (callN prog W (n + 1)) W f33b1 ρ' st') fuel
      [s0, s1, .val (eL l), s3, s4, s5] st = .nx [s0, s1, .val (eL (lapps l (ends p))), s3, s4, s5] st
  | p, l, N, 0, _, _, _, hf => by omega
  | [], l, N, fuel + 1, hl, hN, hle, hf => by
    have hz : l.1 = [] := by simpa [names] using hl
    have : ¬ ((1 : Int) < (l.1.length : Int) + 1) := by rw [hz]; simp
    rw [wl_f (st1 := st)]
    · rfl
    · simp only [v_con, v_var, v_peek, v_glob, v_tup, v_lst, v_cellL, v_bin, v_cmp, v_chain, v_and, v_or, v_not, v_ite, v_idx, v_slice, v_rev, v_call, v_prim, v_meth, v_neg, evEs, evAs, evA, evI, evT, evIt, evB_cons, evB_nil, s_ite, s_ret, s_set, s_expr, s_raise, s_freeze, s_setT, s_put, s_par, s_for, p_ok, b_ok, b_ra, t_ok, t_ra, l_ok, cm_ok, q_nx, q_ret, q_ra, c_t, c_f, tr_bl, f_ret, f_nx, f_ra, nx_some, varD, peekD, setO, List.getElem?_cons_zero, List.getElem?_cons_succ, List.cons_append, List.nil_append, List.append_nil, List.replicate, Nat.sub_self, List.set_cons_zero, List.set_cons_succ, List.length_cons, List.length_nil, Option.map_some, Option.map_none, Option.bind_some, if_true, reduceIte, Nat.reduceAdd, Nat.reduceLT, Nat.reduceSub, Bool.not_true, Bool.not_false, Bool.false_eq_true, Bool.false_and, Bool.true_and, Bool.and_false, Bool.and_true, intO, ceq, cne, cge, cgt, cle, clt, cin, cnin, nb, reduceCtorEq, decide_true, decide_false, mt0, mt1, mt2, mt3, ml0, ml1, ml2, ml3, Int.reduceNeg, setOs, if_false, bt_name, bt2, bt3, bt4, eL_len, this, l_ok, b_ok]
  | y :: q, l, N, fuel + 1, hl, hN, hle, hf => by
    have nm : names (lshut l) = q := by rw [names_lshut, hl]; rfl
    have hlen := names_len (l := l)
    rw [hl, List.length_cons] at hlen
    have hne : l.1 ≠ [] := fun z => by rw [z] at hlen; simp at hlen
    have : ((1 : Int) < (l.1.length : Int) + 1) := by omega
    rw [wl_t (st1 := st) (ρ2 := [s0, s1, .val (eL (lshut l)), s3, s4, s5]) (st2 := st), l_law_readw q (lshut l) (N + 1) fuel nm (lshut_ok hN) (by simp at hle; omega) (by simp at hf; omega)]
    · rfl
    · simp only [v_con, v_var, v_peek, v_glob, v_tup, v_lst, v_cellL, v_bin, v_cmp, v_chain, v_and, v_or, v_not, v_ite, v_idx, v_slice, v_rev, v_call, v_prim, v_meth, v_neg, evEs, evAs, evA, evI, evT, evIt, evB_cons, evB_nil, s_ite, s_ret, s_set, s_expr, s_raise, s_freeze, s_setT, s_put, s_par, s_for, p_ok, b_ok, b_ra, t_ok, t_ra, l_ok, cm_ok, q_nx, q_ret, q_ra, c_t, c_f, tr_bl, f_ret, f_nx, f_ra, nx_some, varD, peekD, setO, List.getElem?_cons_zero, List.getElem?_cons_succ, List.cons_append, List.nil_append, List.append_nil, List.replicate, Nat.sub_self, List.set_cons_zero, List.set_cons_succ, List.length_cons, List.length_nil, Option.map_some, Option.map_none, Option.bind_some, if_true, reduceIte, Nat.reduceAdd, Nat.reduceLT, Nat.reduceSub, Bool.not_true, Bool.not_false, Bool.false_eq_true, Bool.false_and, Bool.true_and, Bool.and_false, Bool.and_true, intO, ceq, cne, cge, cgt, cle, clt, cin, cnin, nb, reduceCtorEq, decide_true, decide_false, mt0, mt1, mt2, mt3, ml0, ml1, ml2, ml3, Int.reduceNeg, setOs, if_false, bt_name, bt2, bt3, bt4, eL_len, this, l_ok, b_ok]
    · simp only [f33b1, v_con, v_var, v_peek, v_glob, v_tup, v_lst, v_cellL, v_bin, v_cmp, v_chain, v_and, v_or, v_not, v_ite, v_idx, v_slice, v_rev, v_call, v_prim, v_meth, v_neg, evEs, evAs, evA, evI, evT, evIt, evB_cons, evB_nil, s_ite, s_ret, s_set, s_expr, s_raise, s_freeze, s_setT, s_put, s_par, s_for, p_ok, b_ok, b_ra, t_ok, t_ra, l_ok, cm_ok, q_nx, q_ret, q_ra, c_t, c_f, tr_bl, f_ret, f_nx, f_ra, nx_some, varD, peekD, setO, List.getElem?_cons_zero, List.getElem?_cons_succ, List.cons_append, List.nil_append, List.append_nil, List.replicate, Nat.sub_self, List.set_cons_zero, List.set_cons_succ, List.length_cons, List.length_nil, Option.map_some, Option.map_none, Option.bind_some, if_true, reduceIte, Nat.reduceAdd, Nat.reduceLT, Nat.reduceSub, Bool.not_true, Bool.not_false, Bool.false_eq_true, Bool.false_and, Bool.true_and, Bool.and_false, Bool.and_true, intO, ceq, cne, cge, cgt, cle, clt, cin, cnin, nb, reduceCtorEq, decide_true, decide_false, mt0, mt1, mt2, mt3, ml0, ml1, ml2, ml3, Int.reduceNeg, setOs, if_false, bt_name, bt2, bt3, bt4, w_law_shut (n := n) hne hN (by simp at hle; omega)]
theorem w_law_read {ms : List Mk} {v : D} (hv : items v = some (ms.map eM)) (hr : r.Ok) (hm : ∀ m ∈ ms, MOk r.ks.length m) (hl : ms.length ≤ 100000) : callN prog W (n + 4) 33 [.val (eR r), .val v] st = .ok (.tup [eT (read r ms), eP (run r [] ms).1]) st := by
  rw [call_def (d := f33) rfl rfl rfl]
  obtain ⟨s3', e, ok⟩ := l_law_read (n := n) (st := st) (ts := .val v) (s4 := .non) (s5 := .non) hr ms ([], []) 0 .non (by intro x hx; simp [names] at hx) hm (by simp [names]) ⟨by simp, by simp, by simp⟩ (by omega)
  have e0 : D.lst [.tup [.str [], .tup []]] = eL ([], []) := rfl
  have hn0 : names ([], []) = [] := rfl
  rw [hn0] at e ok
  have e1 : lapps ([], []) (run r [] ms).2 = lrun r ms := rfl
  rw [e1] at e ok
  have nm := lrun_names r ms
  have pl := (run_len (r := r) (ms := ms) (p := []) (by simp)).1
  have hd3 := hr.d3
  have hE : evE prog.globs (callN prog W (n + 3)) f33c0 [.val (eR r), .val v, .val (eL (lrun r ms)), s3', .non, .non] st = .ok (eNl (run r [] ms).1) st := by
    have e2 : eNl (run r [] ms).1 = .lst ((((lrun r ms).1.map (fun q => (eN q.1, q.2))).reverse.map rowF).map fun q => match q with | .tup [a, _] => a | _ => .non) := by
      rw [← nm]
      simp [eNl, names, rowF, Function.comp_def]
    rw [e2]
    have hlen := names_len (l := lrun r ms)
    rw [nm] at hlen
    refine e_map _ (v := .lst (((lrun r ms).1.map (fun q => (eN q.1, q.2))).reverse.map rowF)) ?_ rfl (fun y hy => ?_) (by simp) (by simp; exact line_le' (b := 1000) (by omega) (by omega))
    · simp only [v_con, v_var, v_peek, v_glob, v_tup, v_lst, v_cellL, v_bin, v_cmp, v_chain, v_and, v_or, v_not, v_ite, v_idx, v_slice, v_rev, v_call, v_prim, v_meth, v_neg, evEs, evAs, evA, evI, evT, evIt, evB_cons, evB_nil, s_ite, s_ret, s_set, s_expr, s_raise, s_freeze, s_setT, s_put, s_par, s_for, p_ok, b_ok, b_ra, t_ok, t_ra, l_ok, cm_ok, q_nx, q_ret, q_ra, c_t, c_f, tr_bl, f_ret, f_nx, f_ra, nx_some, varD, peekD, setO, List.getElem?_cons_zero, List.getElem?_cons_succ, List.cons_append, List.nil_append, List.append_nil, List.replicate, Nat.sub_self, List.set_cons_zero, List.set_cons_succ, List.length_cons, List.length_nil, Option.map_some, Option.map_none, Option.bind_some, if_true, reduceIte, Nat.reduceAdd, Nat.reduceLT, Nat.reduceSub, Bool.not_true, Bool.not_false, Bool.false_eq_true, Bool.false_and, Bool.true_and, Bool.and_false, Bool.and_true, intO, ceq, cne, cge, cgt, cle, clt, cin, cnin, nb, reduceCtorEq, decide_true, decide_false, mt0, mt1, mt2, mt3, ml0, ml1, ml2, ml3, Int.reduceNeg, setOs, if_false, bt_name, bt2, bt3, bt4, eL_tail]
    · obtain ⟨q, _, rfl⟩ := List.mem_map.mp hy
      simp only [v_con, v_var, v_peek, v_glob, v_tup, v_lst, v_cellL, v_bin, v_cmp, v_chain, v_and, v_or, v_not, v_ite, v_idx, v_slice, v_rev, v_call, v_prim, v_meth, v_neg, evEs, evAs, evA, evI, evT, evIt, evB_cons, evB_nil, s_ite, s_ret, s_set, s_expr, s_raise, s_freeze, s_setT, s_put, s_par, s_for, p_ok, b_ok, b_ra, t_ok, t_ra, l_ok, cm_ok, q_nx, q_ret, q_ra, c_t, c_f, tr_bl, f_ret, f_nx, f_ra, nx_some, varD, peekD, setO, List.getElem?_cons_zero, List.getElem?_cons_succ, List.cons_append, List.nil_append, List.append_nil, List.replicate, Nat.sub_self, List.set_cons_zero, List.set_cons_succ, List.length_cons, List.length_nil, Option.map_some, Option.map_none, Option.bind_some, if_true, reduceIte, Nat.reduceAdd, Nat.reduceLT, Nat.reduceSub, Bool.not_true, Bool.not_false, Bool.false_eq_true, Bool.false_and, Bool.true_and, Bool.and_false, Bool.and_true, intO, ceq, cne, cge, cgt, cle, clt, cin, cnin, nb, reduceCtorEq, decide_true, decide_false, mt0, mt1, mt2, mt3, ml0, ml1, ml2, ml3, Int.reduceNeg, setOs, if_false, bt_name, bt2, bt3, bt4, rowF_0]
      rfl
  have htup : primD .tuple (eNl (run r [] ms).1) = some (eP (run r [] ms).1) := rfl
  have hW : evS prog.globs (callN prog W (n + 3)) W (.while (.cmp .gt (.prim .len (.var 2)) (.con (.int 1))) f33b1) [.val (eR r), .val v, .val (eL (lrun r ms)), s3', .val (eP (run r [] ms).1), .non] st = .nx [.val (eR r), .val v, .val (eL (lapps (lrun r ms) (ends (run r [] ms).1))), s3', .val (eP (run r [] ms).1), .non] st := by
    rw [s_while]
    exact l_law_readw (n := n + 2) (run r [] ms).1 (lrun r ms) (0 + 5 * ms.length) W nm ok (by omega) (by show _ < 5000000; omega)
  simp only [f33, hE, htup, hW, v_con, v_var, v_peek, v_glob, v_tup, v_lst, v_cellL, v_bin, v_cmp, v_chain, v_and, v_or, v_not, v_ite, v_idx, v_slice, v_rev, v_call, v_prim, v_meth, v_neg, evEs, evAs, evA, evI, evT, evIt, evB_cons, evB_nil, s_ite, s_ret, s_set, s_expr, s_raise, s_freeze, s_setT, s_put, s_par, s_for, p_ok, b_ok, b_ra, t_ok, t_ra, l_ok, cm_ok, q_nx, q_ret, q_ra, c_t, c_f, tr_bl, f_ret, f_nx, f_ra, nx_some, varD, peekD, setO, List.getElem?_cons_zero, List.getElem?_cons_succ, List.cons_append, List.nil_append, List.append_nil, List.replicate, Nat.sub_self, List.set_cons_zero, List.set_cons_succ, List.length_cons, List.length_nil, Option.map_some, Option.map_none, Option.bind_some, if_true, reduceIte, Nat.reduceAdd, Nat.reduceLT, Nat.reduceSub, Bool.not_true, Bool.not_false, Bool.false_eq_true, Bool.false_and, Bool.true_and, Bool.and_false, Bool.and_true, intO, ceq, cne, cge, cgt, cle, clt, cin, cnin, nb, reduceCtorEq, decide_true, decide_false, mt0, mt1, mt2, mt3, ml0, ml1, ml2, ml3, Int.reduceNeg, setOs, if_false, bt_name, bt2, bt3, bt4, e0, hv, e, eL_0, rowF_1, read_lrun]
end
end K02
end
section
set_option maxRecDepth 100000
set_option maxHeartbeats 4000000
/-! RdV: what is taken for a reader, a text; what is drawn. -/
namespace K02
open Mini Rdr
def within (a b : Int) : D → Bool
  | .int i => decide (a ≤ i) && decide (i ≤ b)
  | _ => false
def hasI (a b : Int) : D → Bool
  | .tup xs => decide (a ≤ (xs.length : Int)) && decide ((xs.length : Int) ≤ b)
  | _ => false
def kinds : List (List Nat) := [[110, 101, 115, 116], [118, 111, 105, 100], [114, 97, 119], [115, 101, 108, 102], [109, 111, 100, 101]]
def habits : List (List Nat) := [[112, 97, 115, 115], [115, 101, 97, 114, 99, 104], [116, 111, 112]]
def ways : List (List Nat) := [[107, 101, 101, 112], [115, 116, 114, 105, 107, 101], [117, 110, 119, 114, 97, 112]]
section
variable {L k : Nat}
theorem w_is_within (n : Nat) (st : Store) {v : D} (a b : Int) (hv : Gd L k v) : callN prog W (n + 1) 0 [.val v, .val (.int a), .val (.int b)] st = .ok (.bl (within a b v)) st := by
  rw [call_def (d := f0) rfl rfl rfl]
  cases hv <;> simp only [f0, v_con, v_var, v_peek, v_glob, v_tup, v_lst, v_cellL, v_bin, v_cmp, v_chain, v_and, v_or, v_not, v_ite, v_idx, v_slice, v_rev, v_call, v_prim, v_meth, v_neg, evEs, evAs, evA, evI, evT, evIt, evB_cons, evB_nil, s_ite, s_ret, s_set, s_expr, s_raise, s_freeze, s_setT, s_put, s_par, s_for, p_ok, b_ok, b_ra, t_ok, t_ra, l_ok, cm_ok, q_nx, q_ret, q_ra, c_t, c_f, tr_bl, f_ret, f_nx, f_ra, nx_some, varD, peekD, setO, List.getElem?_cons_zero, List.getElem?_cons_succ, List.cons_append, List.nil_append, List.append_nil, List.replicate, Nat.sub_self, List.set_cons_zero, List.set_cons_succ, List.length_cons, List.length_nil, Option.map_some, Option.map_none, Option.bind_some, if_true, reduceIte, Nat.reduceAdd, Nat.reduceLT, Nat.reduceSub, Bool.not_true, Bool.not_false, Bool.false_eq_true, Bool.false_and, Bool.true_and, Bool.and_false, Bool.and_true, primD, intO, items, cmpD, Bool.true_and, Bool.and_false, and_bb, within]
theorem w_has_items (n : Nat) (st : Store) {v : D} (a b : Int) (hv : Gd L k v) : callN prog W (n + 1) 1 [.val v, .val (.int a), .val (.int b)] st = .ok (.bl (hasI a b v)) st := by
  rw [call_def (d := f1) rfl rfl rfl]
  cases hv <;> simp only [f1, v_con, v_var, v_peek, v_glob, v_tup, v_lst, v_cellL, v_bin, v_cmp, v_chain, v_and, v_or, v_not, v_ite, v_idx, v_slice, v_rev, v_call, v_prim, v_meth, v_neg, evEs, evAs, evA, evI, evT, evIt, evB_cons, evB_nil, s_ite, s_ret, s_set, s_expr, s_raise, s_freeze, s_setT, s_put, s_par, s_for, p_ok, b_ok, b_ra, t_ok, t_ra, l_ok, cm_ok, q_nx, q_ret, q_ra, c_t, c_f, tr_bl, f_ret, f_nx, f_ra, nx_some, varD, peekD, setO, List.getElem?_cons_zero, List.getElem?_cons_succ, List.cons_append, List.nil_append, List.append_nil, List.replicate, Nat.sub_self, List.set_cons_zero, List.set_cons_succ, List.length_cons, List.length_nil, Option.map_some, Option.map_none, Option.bind_some, if_true, reduceIte, Nat.reduceAdd, Nat.reduceLT, Nat.reduceSub, Bool.not_true, Bool.not_false, Bool.false_eq_true, Bool.false_and, Bool.true_and, Bool.and_false, Bool.and_true, primD, intO, items, cmpD, Bool.true_and, Bool.false_and, Bool.and_false, and_bb, hasI]
theorem w_is_one_of (n : Nat) (st : Store) {v : D} (ws : List (List Nat)) (w : D) (hw : w = .lst (ws.map D.str) ∨ w = .tup (ws.map D.str)) (hv : Gd L k v) : callN prog W (n + 1) 2 [.val v, .val w] st = .ok (.bl (among ws v)) st := by
  rw [call_def (d := f2) rfl rfl rfl]
  rcases hw with rfl | rfl
  · cases hv <;> simp only [f2, v_con, v_var, v_peek, v_glob, v_tup, v_lst, v_cellL, v_bin, v_cmp, v_chain, v_and, v_or, v_not, v_ite, v_idx, v_slice, v_rev, v_call, v_prim, v_meth, v_neg, evEs, evAs, evA, evI, evT, evIt, evB_cons, evB_nil, s_ite, s_ret, s_set, s_expr, s_raise, s_freeze, s_setT, s_put, s_par, s_for, p_ok, b_ok, b_ra, t_ok, t_ra, l_ok, cm_ok, q_nx, q_ret, q_ra, c_t, c_f, tr_bl, f_ret, f_nx, f_ra, nx_some, varD, peekD, setO, List.getElem?_cons_zero, List.getElem?_cons_succ, List.cons_append, List.nil_append, List.append_nil, List.replicate, Nat.sub_self, List.set_cons_zero, List.set_cons_succ, List.length_cons, List.length_nil, Option.map_some, Option.map_none, Option.bind_some, if_true, reduceIte, Nat.reduceAdd, Nat.reduceLT, Nat.reduceSub, Bool.not_true, Bool.not_false, Bool.false_eq_true, Bool.false_and, Bool.true_and, Bool.and_false, Bool.and_true, primD, intO, items, cmpD, in_lst, Bool.true_and, Bool.and_false, and_bb, among]
  · cases hv <;> simp only [f2, v_con, v_var, v_peek, v_glob, v_tup, v_lst, v_cellL, v_bin, v_cmp, v_chain, v_and, v_or, v_not, v_ite, v_idx, v_slice, v_rev, v_call, v_prim, v_meth, v_neg, evEs, evAs, evA, evI, evT, evIt, evB_cons, evB_nil, s_ite, s_ret, s_set, s_expr, s_raise, s_freeze, s_setT, s_put, s_par, s_for, p_ok, b_ok, b_ra, t_ok, t_ra, l_ok, cm_ok, q_nx, q_ret, q_ra, c_t, c_f, tr_bl, f_ret, f_nx, f_ra, nx_some, varD, peekD, setO, List.getElem?_cons_zero, List.getElem?_cons_succ, List.cons_append, List.nil_append, List.append_nil, List.replicate, Nat.sub_self, List.set_cons_zero, List.set_cons_succ, List.length_cons, List.length_nil, Option.map_some, Option.map_none, Option.bind_some, if_true, reduceIte, Nat.reduceAdd, Nat.reduceLT, Nat.reduceSub, Bool.not_true, Bool.not_false, Bool.false_eq_true, Bool.false_and, Bool.true_and, Bool.and_false, Bool.and_true, primD, intO, items, cmpD, in_tup, Bool.true_and, Bool.and_false, and_bb, among]
/-- a reader -/
def rdr : D → Bool
  | .tup [.tup ks, h, d] => decide (1 ≤ ks.length) && decide (ks.length ≤ 3) && ks.all (among kinds) && (among habits h && within 1 3 d)
  | _ => false
theorem glob1 : prog.globs[1]? = some (.tup (kinds.map D.str)) := rfl
theorem glob2 : prog.globs[2]? = some (.tup (habits.map D.str)) := rfl
theorem glob3 : prog.globs[3]? = some (.int 40) := rfl
end
section
variable {L k : Nat}
theorem line_le {a b : Nat} (h : a ≤ b) (hb : b ≤ 16777216) : a ≤ line := Nat.le_trans h hb
theorem ix0 {st : Store} {a b c : D} : idxD st (.tup [a, b, c]) (.int 0) = some a := rfl
theorem ix1 {st : Store} {a b c : D} : idxD st (.tup [a, b, c]) (.int 1) = some b := rfl
theorem ix2 {st : Store} {a b c : D} : idxD st (.tup [a, b, c]) (.int 2) = some c := rfl
theorem iy0 {st : Store} {a b : D} : idxD st (.tup [a, b]) (.int 0) = some a := rfl
theorem iy1 {st : Store} {a b : D} : idxD st (.tup [a, b]) (.int 1) = some b := rfl
/-- those that are no triple -/
theorem triple (v : D) : (hasI 3 3 v = false ∧ ∀ a b c, v ≠ .tup [a, b, c]) ∨ ∃ a b c, v = .tup [a, b, c] := by
  cases v with
  | tup xs =>
    match xs with
    | [a, b, c] => exact .inr ⟨a, b, c, rfl⟩
    | [] => exact .inl ⟨rfl, by intro a b c h; cases h⟩
    | [a] => exact .inl ⟨rfl, by intro a b c h; cases h⟩
    | [a, b] => exact .inl ⟨rfl, by intro a b c h; cases h⟩
    | a :: b :: c :: d :: r =>
      refine .inl ⟨?_, by intro a b c h; cases h⟩
      simp only [hasI, List.length_cons, Bool.and_eq_false_iff, decide_eq_false_iff_not]
      right; omega
  | _ => exact .inl ⟨rfl, by intro a b c h; cases h⟩
theorem rdr_no {v : D} (h : ∀ a b c, v ≠ .tup [a, b, c]) : rdr v = false := by
  unfold rdr
  split
  · exact absurd rfl (h _ _ _)
  · rfl
/-- [one(x, words) for x in xs], all of them -/
theorem w_is_reader_value (n : Nat) (st : Store) {v : D} (hL : L ≤ 1000) (hv : Gd L k v) : callN prog W (n + 2) 3 [.val v] st = .ok (.bl (rdr v)) st := by
  rw [call_def (d := f3) rfl rfl rfl]
  rcases triple v with ⟨h1, h2⟩ | ⟨a, b, c, rfl⟩
  · rw [rdr_no h2]
    simp only [f3, v_con, v_var, v_peek, v_glob, v_tup, v_lst, v_cellL, v_bin, v_cmp, v_chain, v_and, v_or, v_not, v_ite, v_idx, v_slice, v_rev, v_call, v_prim, v_meth, v_neg, evEs, evAs, evA, evI, evT, evIt, evB_cons, evB_nil, s_ite, s_ret, s_set, s_expr, s_raise, s_freeze, s_setT, s_put, s_par, s_for, p_ok, b_ok, b_ra, t_ok, t_ra, l_ok, cm_ok, q_nx, q_ret, q_ra, c_t, c_f, tr_bl, f_ret, f_nx, f_ra, nx_some, varD, peekD, setO, List.getElem?_cons_zero, List.getElem?_cons_succ, List.cons_append, List.nil_append, List.append_nil, List.replicate, Nat.sub_self, List.set_cons_zero, List.set_cons_succ, List.length_cons, List.length_nil, Option.map_some, Option.map_none, Option.bind_some, if_true, reduceIte, Nat.reduceAdd, Nat.reduceLT, Nat.reduceSub, Bool.not_true, Bool.not_false, Bool.false_eq_true, Bool.false_and, Bool.true_and, Bool.and_false, Bool.and_true, primD, intO, items, w_has_items n st 3 3 hv, h1]
  · have ga : Gd L k a := hv.item (by simp)
    have gb : Gd L k b := hv.item (by simp)
    have gc : Gd L k c := hv.item (by simp)
    have h3 : hasI 3 3 (.tup [a, b, c]) = true := rfl
    by_cases ht : hasI 1 3 a = true
    · obtain ⟨ks, rfl⟩ : ∃ ks, a = .tup ks := by cases a <;> first | (cases ht; done) | exact ⟨_, rfl⟩
      have hE : evE prog.globs (callN prog W (n + 1)) f3c0 [.val (.tup [.tup ks, b, c]), .non] st = .ok (.lst (ks.map fun x => .bl (among kinds x))) st := by
        refine e_map (v := .tup ks) _ ?_ rfl (fun x hx => ?_) (by simp) (line_le ga.len (by omega))
        · simp only [v_con, v_var, v_peek, v_glob, v_tup, v_lst, v_cellL, v_bin, v_cmp, v_chain, v_and, v_or, v_not, v_ite, v_idx, v_slice, v_rev, v_call, v_prim, v_meth, v_neg, evEs, evAs, evA, evI, evT, evIt, evB_cons, evB_nil, s_ite, s_ret, s_set, s_expr, s_raise, s_freeze, s_setT, s_put, s_par, s_for, p_ok, b_ok, b_ra, t_ok, t_ra, l_ok, cm_ok, q_nx, q_ret, q_ra, c_t, c_f, tr_bl, f_ret, f_nx, f_ra, nx_some, varD, peekD, setO, List.getElem?_cons_zero, List.getElem?_cons_succ, List.cons_append, List.nil_append, List.append_nil, List.replicate, Nat.sub_self, List.set_cons_zero, List.set_cons_succ, List.length_cons, List.length_nil, Option.map_some, Option.map_none, Option.bind_some, if_true, reduceIte, Nat.reduceAdd, Nat.reduceLT, Nat.reduceSub, Bool.not_true, Bool.not_false, Bool.false_eq_true, Bool.false_and, Bool.true_and, Bool.and_false, Bool.and_true, primD, intO, items, ix0]
        · simp only [v_con, v_var, v_peek, v_glob, v_tup, v_lst, v_cellL, v_bin, v_cmp, v_chain, v_and, v_or, v_not, v_ite, v_idx, v_slice, v_rev, v_call, v_prim, v_meth, v_neg, evEs, evAs, evA, evI, evT, evIt, evB_cons, evB_nil, s_ite, s_ret, s_set, s_expr, s_raise, s_freeze, s_setT, s_put, s_par, s_for, p_ok, b_ok, b_ra, t_ok, t_ra, l_ok, cm_ok, q_nx, q_ret, q_ra, c_t, c_f, tr_bl, f_ret, f_nx, f_ra, nx_some, varD, peekD, setO, List.getElem?_cons_zero, List.getElem?_cons_succ, List.cons_append, List.nil_append, List.append_nil, List.replicate, Nat.sub_self, List.set_cons_zero, List.set_cons_succ, List.length_cons, List.length_nil, Option.map_some, Option.map_none, Option.bind_some, if_true, reduceIte, Nat.reduceAdd, Nat.reduceLT, Nat.reduceSub, Bool.not_true, Bool.not_false, Bool.false_eq_true, Bool.false_and, Bool.true_and, Bool.and_false, Bool.and_true, primD, intO, items, glob1, w_is_one_of n st kinds _ (.inr rfl) (ga.item hx)]
      have e1 : rdr (.tup [.tup ks, b, c]) = (ks.all (among kinds) && (among habits b && within 1 3 c)) := by
        have ht' : (decide (1 ≤ ks.length) && decide (ks.length ≤ 3)) = true := by
          simp only [hasI, Bool.and_eq_true, decide_eq_true_eq] at ht ⊢
          omega
        show (decide (1 ≤ ks.length) && decide (ks.length ≤ 3) && ks.all (among kinds) && (among habits b && within 1 3 c)) = _
        rw [ht', Bool.true_and]
      rw [e1]
      cases hk : ks.all (among kinds) <;>
        simp only [f3, hE, v_con, v_var, v_peek, v_glob, v_tup, v_lst, v_cellL, v_bin, v_cmp, v_chain, v_and, v_or, v_not, v_ite, v_idx, v_slice, v_rev, v_call, v_prim, v_meth, v_neg, evEs, evAs, evA, evI, evT, evIt, evB_cons, evB_nil, s_ite, s_ret, s_set, s_expr, s_raise, s_freeze, s_setT, s_put, s_par, s_for, p_ok, b_ok, b_ra, t_ok, t_ra, l_ok, cm_ok, q_nx, q_ret, q_ra, c_t, c_f, tr_bl, f_ret, f_nx, f_ra, nx_some, varD, peekD, setO, List.getElem?_cons_zero, List.getElem?_cons_succ, List.cons_append, List.nil_append, List.append_nil, List.replicate, Nat.sub_self, List.set_cons_zero, List.set_cons_succ, List.length_cons, List.length_nil, Option.map_some, Option.map_none, Option.bind_some, if_true, reduceIte, Nat.reduceAdd, Nat.reduceLT, Nat.reduceSub, Bool.not_true, Bool.not_false, Bool.false_eq_true, Bool.false_and, Bool.true_and, Bool.and_false, Bool.and_true, primD, intO, items, w_has_items n st 3 3 hv, h3, ix0, ix1, ix2, w_has_items n st 1 3 ga, ht, bools_map, List.all_map, Function.id_comp, hk, glob2, w_is_one_of n st habits _ (.inr rfl) gb, w_is_within n st 1 3 gc, and_bb, Bool.false_and, Bool.true_and]
    · have e1 : rdr (.tup [a, b, c]) = false := by
        cases a <;> first | rfl | skip
        rename_i ks
        have : (decide (1 ≤ ks.length) && decide (ks.length ≤ 3)) = false := by
          simp only [hasI, Bool.and_eq_true, decide_eq_true_eq] at ht
          simp only [Bool.and_eq_false_iff, decide_eq_false_iff_not]
          omega
        show (decide (1 ≤ ks.length) && decide (ks.length ≤ 3) && ks.all (among kinds) && (among habits b && within 1 3 c)) = _
        rw [this, Bool.false_and, Bool.false_and]
      have ht : hasI 1 3 a = false := by simpa using ht
      rw [e1]
      simp only [f3, v_con, v_var, v_peek, v_glob, v_tup, v_lst, v_cellL, v_bin, v_cmp, v_chain, v_and, v_or, v_not, v_ite, v_idx, v_slice, v_rev, v_call, v_prim, v_meth, v_neg, evEs, evAs, evA, evI, evT, evIt, evB_cons, evB_nil, s_ite, s_ret, s_set, s_expr, s_raise, s_freeze, s_setT, s_put, s_par, s_for, p_ok, b_ok, b_ra, t_ok, t_ra, l_ok, cm_ok, q_nx, q_ret, q_ra, c_t, c_f, tr_bl, f_ret, f_nx, f_ra, nx_some, varD, peekD, setO, List.getElem?_cons_zero, List.getElem?_cons_succ, List.cons_append, List.nil_append, List.append_nil, List.replicate, Nat.sub_self, List.set_cons_zero, List.set_cons_succ, List.length_cons, List.length_nil, Option.map_some, Option.map_none, Option.bind_some, if_true, reduceIte, Nat.reduceAdd, Nat.reduceLT, Nat.reduceSub, Bool.not_true, Bool.not_false, Bool.false_eq_true, Bool.false_and, Bool.true_and, Bool.and_false, Bool.and_true, primD, intO, items, w_has_items n st 3 3 hv, h3, ix0, w_has_items n st 1 3 ga, ht]
theorem w_need_reader (n : Nat) (st : Store) {v : D} (hL : L ≤ 1000) (hv : Gd L k v) : callN prog W (n + 3) 6 [.val v] st = if rdr v then .ok .non st else .raise ⟨1, none⟩ st := by
  rw [call_def (d := f6) rfl rfl rfl]
  cases hr : rdr v <;> simp only [f6, v_con, v_var, v_peek, v_glob, v_tup, v_lst, v_cellL, v_bin, v_cmp, v_chain, v_and, v_or, v_not, v_ite, v_idx, v_slice, v_rev, v_call, v_prim, v_meth, v_neg, evEs, evAs, evA, evI, evT, evIt, evB_cons, evB_nil, s_ite, s_ret, s_set, s_expr, s_raise, s_freeze, s_setT, s_put, s_par, s_for, p_ok, b_ok, b_ra, t_ok, t_ra, l_ok, cm_ok, q_nx, q_ret, q_ra, c_t, c_f, tr_bl, f_ret, f_nx, f_ra, nx_some, varD, peekD, setO, List.getElem?_cons_zero, List.getElem?_cons_succ, List.cons_append, List.nil_append, List.append_nil, List.replicate, Nat.sub_self, List.set_cons_zero, List.set_cons_succ, List.length_cons, List.length_nil, Option.map_some, Option.map_none, Option.bind_some, if_true, reduceIte, Nat.reduceAdd, Nat.reduceLT, Nat.reduceSub, Bool.not_true, Bool.not_false, Bool.false_eq_true, Bool.false_and, Bool.true_and, Bool.and_false, Bool.and_true, primD, intO, items, w_is_reader_value n st hL hv, hr]
def mk1 : List (List Nat) := [[38, 97, 43], [38, 97, 45], [46], [97, 43], [97, 45]]
def mk2 : List (List Nat) := [[38, 97, 43], [38, 97, 45], [38, 98, 43], [38, 98, 45], [46], [97, 43], [97, 45], [98, 43], [98, 45]]
def mk3 : List (List Nat) := [[38, 97, 43], [38, 97, 45], [38, 98, 43], [38, 98, 45], [38, 99, 43], [38, 99, 45], [46], [97, 43], [97, 45], [98, 43], [98, 45], [99, 43], [99, 45]]
/-- the marks of so many names -/
def mk (many : Int) : List (List Nat) := if many = 1 then mk1 else if many = 2 then mk2 else mk3
theorem w_all_marks (n : Nat) (st : Store) {many : Int} (h : many = 1 ∨ many = 2 ∨ many = 3) : callN prog W (n + 1) 4 [.val (.int many)] st = .ok (.lst ((mk many).map D.str)) st := by
  rcases h with rfl | rfl | rfl <;> rfl
theorem w__law_marks (n : Nat) (st : Store) {many : Int} (h : many = 1 ∨ many = 2 ∨ many = 3) : callN prog W (n + 1) 27 [.val (.int many)] st = .ok (.lst ((mk many).map D.str)) st := by
  rcases h with rfl | rfl | rfl <;> rfl
/-- a text of so many names -/
def txtB (many : Int) : D → Bool
  | .tup xs => decide (xs.length ≤ 40) && xs.all (among (mk many))
  | _ => false
theorem w_is_text_value (n : Nat) (st : Store) {v : D} {many : Int} (h : many = 1 ∨ many = 2 ∨ many = 3) (hL : L ≤ 1000) (hv : Gd L k v) : callN prog W (n + 2) 5 [.val (.int many), .val v, .val (.int 40)] st = .ok (.bl (txtB many v)) st := by
  rw [call_def (d := f5) rfl rfl rfl]
  cases hh : hasI 0 40 v with
  | false =>
    have e : txtB many v = false := by
      cases v <;> (first | rfl | skip)
      simp only [hasI, Bool.and_eq_false_iff, decide_eq_false_iff_not] at hh
      simp only [txtB, Bool.and_eq_false_iff, decide_eq_false_iff_not]
      left; omega
    simp only [f5, v_con, v_var, v_peek, v_glob, v_tup, v_lst, v_cellL, v_bin, v_cmp, v_chain, v_and, v_or, v_not, v_ite, v_idx, v_slice, v_rev, v_call, v_prim, v_meth, v_neg, evEs, evAs, evA, evI, evT, evIt, evB_cons, evB_nil, s_ite, s_ret, s_set, s_expr, s_raise, s_freeze, s_setT, s_put, s_par, s_for, p_ok, b_ok, b_ra, t_ok, t_ra, l_ok, cm_ok, q_nx, q_ret, q_ra, c_t, c_f, tr_bl, f_ret, f_nx, f_ra, nx_some, varD, peekD, setO, List.getElem?_cons_zero, List.getElem?_cons_succ, List.cons_append, List.nil_append, List.append_nil, List.replicate, Nat.sub_self, List.set_cons_zero, List.set_cons_succ, List.length_cons, List.length_nil, Option.map_some, Option.map_none, Option.bind_some, if_true, reduceIte, Nat.reduceAdd, Nat.reduceLT, Nat.reduceSub, Bool.not_true, Bool.not_false, Bool.false_eq_true, Bool.false_and, Bool.true_and, Bool.and_false, Bool.and_true, primD, intO, items, w_all_marks n st h, w_has_items n st 0 40 hv, hh, e]
  | true =>
    obtain ⟨xs, rfl⟩ : ∃ xs, v = .tup xs := by cases v <;> first | (cases hh; done) | exact ⟨_, rfl⟩
    have e : txtB many (.tup xs) = xs.all (among (mk many)) := by
      simp only [hasI, Bool.and_eq_true, decide_eq_true_eq] at hh
      simp only [txtB]
      rw [decide_eq_true (by omega), Bool.true_and]
    have hE : evE prog.globs (callN prog W (n + 1)) f5c0 [.val (.int many), .val (.tup xs), .val (.int 40), .val (.lst ((mk many).map D.str)), .non] st = .ok (.lst (xs.map fun x => .bl (among (mk many) x))) st := by
      refine e_map (v := .tup xs) _ ?_ rfl (fun x hx => ?_) (by simp) (line_le hv.len (by omega))
      · simp only [v_con, v_var, v_peek, v_glob, v_tup, v_lst, v_cellL, v_bin, v_cmp, v_chain, v_and, v_or, v_not, v_ite, v_idx, v_slice, v_rev, v_call, v_prim, v_meth, v_neg, evEs, evAs, evA, evI, evT, evIt, evB_cons, evB_nil, s_ite, s_ret, s_set, s_expr, s_raise, s_freeze, s_setT, s_put, s_par, s_for, p_ok, b_ok, b_ra, t_ok, t_ra, l_ok, cm_ok, q_nx, q_ret, q_ra, c_t, c_f, tr_bl, f_ret, f_nx, f_ra, nx_some, varD, peekD, setO, List.getElem?_cons_zero, List.getElem?_cons_succ, List.cons_append, List.nil_append, List.append_nil, List.replicate, Nat.sub_self, List.set_cons_zero, List.set_cons_succ, List.length_cons, List.length_nil, Option.map_some, Option.map_none, Option.bind_some, if_true, reduceIte, Nat.reduceAdd, Nat.reduceLT, Nat.reduceSub, Bool.not_true, Bool.not_false, Bool.false_eq_true, Bool.false_and, Bool.true_and, Bool.and_false, Bool.and_true, primD, intO, items]
      · simp only [v_con, v_var, v_peek, v_glob, v_tup, v_lst, v_cellL, v_bin, v_cmp, v_chain, v_and, v_or, v_not, v_ite, v_idx, v_slice, v_rev, v_call, v_prim, v_meth, v_neg, evEs, evAs, evA, evI, evT, evIt, evB_cons, evB_nil, s_ite, s_ret, s_set, s_expr, s_raise, s_freeze, s_setT, s_put, s_par, s_for, p_ok, b_ok, b_ra, t_ok, t_ra, l_ok, cm_ok, q_nx, q_ret, q_ra, c_t, c_f, tr_bl, f_ret, f_nx, f_ra, nx_some, varD, peekD, setO, List.getElem?_cons_zero, List.getElem?_cons_succ, List.cons_append, List.nil_append, List.append_nil, List.replicate, Nat.sub_self, List.set_cons_zero, List.set_cons_succ, List.length_cons, List.length_nil, Option.map_some, Option.map_none, Option.bind_some, if_true, reduceIte, Nat.reduceAdd, Nat.reduceLT, Nat.reduceSub, Bool.not_true, Bool.not_false, Bool.false_eq_true, Bool.false_and, Bool.true_and, Bool.and_false, Bool.and_true, primD, intO, items, w_is_one_of n st (mk many) _ (.inl rfl) (hv.item hx)]
    simp only [f5, hE, v_con, v_var, v_peek, v_glob, v_tup, v_lst, v_cellL, v_bin, v_cmp, v_chain, v_and, v_or, v_not, v_ite, v_idx, v_slice, v_rev, v_call, v_prim, v_meth, v_neg, evEs, evAs, evA, evI, evT, evIt, evB_cons, evB_nil, s_ite, s_ret, s_set, s_expr, s_raise, s_freeze, s_setT, s_put, s_par, s_for, p_ok, b_ok, b_ra, t_ok, t_ra, l_ok, cm_ok, q_nx, q_ret, q_ra, c_t, c_f, tr_bl, f_ret, f_nx, f_ra, nx_some, varD, peekD, setO, List.getElem?_cons_zero, List.getElem?_cons_succ, List.cons_append, List.nil_append, List.append_nil, List.replicate, Nat.sub_self, List.set_cons_zero, List.set_cons_succ, List.length_cons, List.length_nil, Option.map_some, Option.map_none, Option.bind_some, if_true, reduceIte, Nat.reduceAdd, Nat.reduceLT, Nat.reduceSub, Bool.not_true, Bool.not_false, Bool.false_eq_true, Bool.false_and, Bool.true_and, Bool.and_false, Bool.and_true, primD, intO, items, w_all_marks n st h, w_has_items n st 0 40 hv, hh, e, bools_map, List.all_map, Function.id_comp, and_bb, Bool.true_and]
end
section
variable {L k : Nat}
theorem w_need_text (n : Nat) (st : Store) {v : D} {many : Int} (h : many = 1 ∨ many = 2 ∨ many = 3) (hL : L ≤ 1000) (hv : Gd L k v) : callN prog W (n + 3) 7 [.val (.int many), .val v] st = if txtB many v then .ok .non st else .raise ⟨4, none⟩ st := by
  rw [call_def (d := f7) rfl rfl rfl]
  cases hr : txtB many v <;> simp only [f7, v_con, v_var, v_peek, v_glob, v_tup, v_lst, v_cellL, v_bin, v_cmp, v_chain, v_and, v_or, v_not, v_ite, v_idx, v_slice, v_rev, v_call, v_prim, v_meth, v_neg, evEs, evAs, evA, evI, evT, evIt, evB_cons, evB_nil, s_ite, s_ret, s_set, s_expr, s_raise, s_freeze, s_setT, s_put, s_par, s_for, p_ok, b_ok, b_ra, t_ok, t_ra, l_ok, cm_ok, q_nx, q_ret, q_ra, c_t, c_f, tr_bl, f_ret, f_nx, f_ra, nx_some, varD, peekD, setO, List.getElem?_cons_zero, List.getElem?_cons_succ, List.cons_append, List.nil_append, List.append_nil, List.replicate, Nat.sub_self, List.set_cons_zero, List.set_cons_succ, List.length_cons, List.length_nil, Option.map_some, Option.map_none, Option.bind_some, if_true, reduceIte, Nat.reduceAdd, Nat.reduceLT, Nat.reduceSub, Bool.not_true, Bool.not_false, Bool.false_eq_true, Bool.false_and, Bool.true_and, Bool.and_false, Bool.and_true, primD, intO, items, glob3, w_is_text_value n st h hL hv, hr]
end
/-- the marks of so many names, ascending -/
def marks (n : Nat) : List Mk := (List.range n).flatMap (fun x => [.m true x true, .m true x false]) ++ .dot :: (List.range n).flatMap (fun x => [.m false x true, .m false x false])
theorem mk_marks {n : Nat} (h : n = 1 ∨ n = 2 ∨ n = 3) : (mk n).map D.str = (marks n).map eM ∧ mk n = (marks n).map eMs := by
  rcases h with rfl | rfl | rfl <;> exact ⟨rfl, rfl⟩
theorem marks_ok {n : Nat} {m : Mk} (h : m ∈ marks n) : MOk n m := by
  simp [marks] at h
  rcases h with ⟨x, hx, rfl | rfl⟩ | rfl | ⟨x, hx, rfl | rfl⟩ <;> first | exact hx | trivial
theorem marks_all {n : Nat} {m : Mk} (h : MOk n m) : m ∈ marks n := by
  rcases m with _ | ⟨a, x, p⟩
  · simp [marks]
  · have h' : x < n := h
    cases a <;> cases p <;> simp [marks, h']
theorem many_or {r : R} (h : r.Ok) : r.ks.length = 1 ∨ r.ks.length = 2 ∨ r.ks.length = 3 := by have := h.n1; have := h.n3; omega
theorem many_orI {r : R} (h : r.Ok) : (r.ks.length : Int) = 1 ∨ (r.ks.length : Int) = 2 ∨ (r.ks.length : Int) = 3 := by have := h.n1; have := h.n3; omega
theorem among_kind (k : K) : among kinds (eK k) = true := by cases k <;> rfl
theorem among_habit (h : Hb) : among habits (eH h) = true := by cases h <;> rfl
theorem rdr_e {r : R} (h : r.Ok) : rdr (eR r) = true := by
  have h1 := h.n1
  have h2 := h.n3
  have h3 := h.d1
  have h4 := h.d3
  have hk : (r.ks.map eK).all (among kinds) = true := by
    rw [List.all_eq_true]
    intro x hx
    obtain ⟨k, _, rfl⟩ := List.mem_map.mp hx
    exact among_kind k
  show (decide (1 ≤ (r.ks.map eK).length) && decide ((r.ks.map eK).length ≤ 3) && (r.ks.map eK).all (among kinds) && (among habits (eH r.h) && within 1 3 (.int r.d))) = true
  rw [hk, among_habit, List.length_map]
  simp [within]
  omega
theorem gd_R {r : R} (h : r.Ok) : Gd 10 2 (eR r) := by
  have h2 := h.n3
  refine .tup (by simp) fun x hx => ?_
  simp at hx
  rcases hx with rfl | rfl | rfl
  · refine .tup (by simp; omega) fun x hx => ?_
    obtain ⟨k, _, rfl⟩ := List.mem_map.mp hx
    cases k <;> exact .str (by decide)
  · cases r.h <;> exact .str (by decide)
  · exact .int _
theorem txt_e {n : Nat} (hn : n = 1 ∨ n = 2 ∨ n = 3) {ms : List Mk} (hl : ms.length ≤ 40) (hm : ∀ m ∈ ms, MOk n m) : txtB n (.tup (ms.map eM)) = true := by
  show (decide ((ms.map eM).length ≤ 40) && (ms.map eM).all (among (mk n))) = true
  rw [List.length_map, decide_eq_true hl, Bool.true_and, List.all_eq_true]
  intro x hx
  obtain ⟨m, hm', rfl⟩ := List.mem_map.mp hx
  show (mk n).contains (eMs m) = true
  rw [(mk_marks hn).2, List.contains_iff_mem]
  exact List.mem_map.mpr ⟨m, marks_all (hm m hm'), rfl⟩
theorem gd_M (m : Mk) (k : Nat) : Gd 10 k (eM m) := by
  rcases m with _ | ⟨_ | _, x, p⟩ <;> exact .str (by simp [eMs])
theorem gd_X {ms : List Mk} (hl : ms.length ≤ 40) : Gd 40 1 (.tup (ms.map eM)) := by
  refine .tup (by simpa using hl) fun x hx => ?_
  obtain ⟨m, _, rfl⟩ := List.mem_map.mp hx
  exact (gd_M m 0).mono (by omega) (by omega)
theorem w_need_reader_e (n : Nat) (st : Store) {r : R} (h : r.Ok) : callN prog W (n + 3) 6 [.val (eR r)] st = .ok .non st := by
  rw [w_need_reader n st (by omega) (gd_R h), rdr_e h]; rfl
theorem w_need_text_e (n : Nat) (st : Store) {r : R} (h : r.Ok) {ms : List Mk} (hl : ms.length ≤ 40) (hm : ∀ m ∈ ms, MOk r.ks.length m) : callN prog W (n + 3) 7 [.val (.int r.ks.length), .val (.tup (ms.map eM))] st = .ok .non st := by
  rw [w_need_text n st (many_orI h) (by omega) (gd_X hl), txt_e (many_or h) hl hm]; rfl
/-- a deck, at most so many cards drawn -/
def Dk (c : Nat) (B : Int) (st : Store) : Prop := ∃ a b t : Int, st[c]? = some [.int a, .int b, .int t] ∧ 0 ≤ b ∧ b < 2147483579 ∧ 0 ≤ t ∧ t ≤ B
theorem Dk.mono {c : Nat} {B B' : Int} {st : Store} (h : Dk c B st) (le : B ≤ B') : Dk c B' st := by
  obtain ⟨a, b, t, e, h1, h2, h3, h4⟩ := h
  exact ⟨a, b, t, e, h1, h2, h3, by omega⟩
theorem w__law_deck (n : Nat) (st : Store) (x t0 : Int) (ht : 0 ≤ t0) : ∃ st', callN prog W (n + 1) 19 [.val (.int x), .val (.int t0)] st = .ok (.cell st.length) st' ∧ Dk st.length t0 st' := by
  have hb := Int.emod_nonneg x (b := 2147483579) (by decide)
  have hb2 := Int.emod_lt_of_pos x (b := 2147483579) (by decide)
  have key : ∀ a b : Int, 0 ≤ b → b < 2147483579 → Dk st.length t0 (st ++ [[.int a, .int b, .int t0]]) := fun a b h1 h2 => ⟨a, b, t0, by simp, h1, h2, ht, Int.le_refl _⟩
  have p1 : binD .pow (.int 10) (.int 18) = some (.int 1000000000000000000) := rfl
  have p2 : ∀ y : Int, binD .mod (.int y) (.int 2147483579) = some (.int (y % 2147483579)) := fun y => rfl
  have p3 : ∀ y z : Int, binD .sub (.int y) (.int z) = some (.int (y - z)) := fun y z => rfl
  have ck : ∀ a b d : Int, cellOk [.int a, .int b, .int d] = true := fun a b d => rfl
  rw [call_def (d := f19) rfl rfl rfl]
  cases h : decide ((1000000000000000000 : Int) ≤ x) with
  | true => exact ⟨st ++ [[.int (x - 1000000000000000000), .int (x % 2147483579), .int t0]], by simp only [f19, v_con, v_var, v_peek, v_glob, v_tup, v_lst, v_cellL, v_bin, v_cmp, v_chain, v_and, v_or, v_not, v_ite, v_idx, v_slice, v_rev, v_call, v_prim, v_meth, v_neg, evEs, evAs, evA, evI, evT, evIt, evB_cons, evB_nil, s_ite, s_ret, s_set, s_expr, s_raise, s_freeze, s_setT, s_put, s_par, s_for, p_ok, b_ok, b_ra, t_ok, t_ra, l_ok, cm_ok, q_nx, q_ret, q_ra, c_t, c_f, tr_bl, f_ret, f_nx, f_ra, nx_some, varD, peekD, setO, List.getElem?_cons_zero, List.getElem?_cons_succ, List.cons_append, List.nil_append, List.append_nil, List.replicate, Nat.sub_self, List.set_cons_zero, List.set_cons_succ, List.length_cons, List.length_nil, Option.map_some, Option.map_none, Option.bind_some, if_true, reduceIte, Nat.reduceAdd, Nat.reduceLT, Nat.reduceSub, Bool.not_true, Bool.not_false, Bool.false_eq_true, Bool.false_and, Bool.true_and, Bool.and_false, Bool.and_true, primD, intO, items, p1, p2, p3, cmpD, h, ck], key _ _ hb hb2⟩
  | false => exact ⟨st ++ [[.int 0, .int (x % 2147483579), .int t0]], by simp only [f19, v_con, v_var, v_peek, v_glob, v_tup, v_lst, v_cellL, v_bin, v_cmp, v_chain, v_and, v_or, v_not, v_ite, v_idx, v_slice, v_rev, v_call, v_prim, v_meth, v_neg, evEs, evAs, evA, evI, evT, evIt, evB_cons, evB_nil, s_ite, s_ret, s_set, s_expr, s_raise, s_freeze, s_setT, s_put, s_par, s_for, p_ok, b_ok, b_ra, t_ok, t_ra, l_ok, cm_ok, q_nx, q_ret, q_ra, c_t, c_f, tr_bl, f_ret, f_nx, f_ra, nx_some, varD, peekD, setO, List.getElem?_cons_zero, List.getElem?_cons_succ, List.cons_append, List.nil_append, List.append_nil, List.replicate, Nat.sub_self, List.set_cons_zero, List.set_cons_succ, List.length_cons, List.length_nil, Option.map_some, Option.map_none, Option.bind_some, if_true, reduceIte, Nat.reduceAdd, Nat.reduceLT, Nat.reduceSub, Bool.not_true, Bool.not_false, Bool.false_eq_true, Bool.false_and, Bool.true_and, Bool.and_false, Bool.and_true, primD, intO, items, p1, p2, p3, cmpD, h, ck], key _ _ hb hb2⟩
theorem c_ix {st : Store} {c : Nat} {a b t : Int} (h : st[c]? = some [.int a, .int b, .int t]) : idxD st (.cell c) (.int 0) = some (.int a) ∧ idxD st (.cell c) (.int 1) = some (.int b) ∧ idxD st (.cell c) (.int 2) = some (.int t) := by
  simp [idxD, h, ixN]
theorem put_cell {st : Store} {c : Nat} {xs : List D} {ρ : Env} {i : Nat} {k : Int} {m : Nat} {z : Int} (hρ : ρ[i]? = some (.val (.cell c))) (h : st[c]? = some xs) (hk : ixN xs.length k = some m) : putD ρ i (.int k) (.int z) st = .nx ρ (st.set c (xs.set m (.int z))) := by
  simp [putD, hρ, h, hk]
theorem put_ok {ρ : Env} {i c : Nat} (hρ : ρ[i]? = some (.val (.cell c))) : putOk ρ i = true := by simp [putOk, hρ]
theorem w__law_pick (n : Nat) {st : Store} {c : Nat} {B s : Int} (h : Dk c B st) (hB : B < 1000000000) (h0 : 0 < s) (h1 : s < 1073741824) :
    ∃ (k : Int) (st' : Store), callN prog W (n + 1) 20 [.val (.cell c), .val (.int s)] st = .ok (.int k) st' ∧ 0 ≤ k ∧ k < s ∧ Dk c (B + 1) st' := by
  obtain ⟨a, b, t, e, b0, b1, t0, t1⟩ := h
  obtain ⟨x0, x1, x2⟩ := c_ix e
  have lt : c < st.length := (List.getElem?_eq_some_iff.mp e).1
  have pm : ∀ y : Int, binD .mod (.int y) (.int s) = some (.int (y % s)) := fun y => by simp [binD, h0]
  have pd : ∀ y : Int, binD .fdiv (.int y) (.int s) = some (.int (y / s)) := fun y => by simp [binD, h0, h1]
  rw [call_def (d := f20) rfl rfl rfl]
  cases hc : decide ((1 : Int) < a) with
  | true =>
    refine ⟨a % s, st.set c [.int (a / s), .int b, .int t], ?_, Int.emod_nonneg _ (by omega), Int.emod_lt_of_pos _ h0, ⟨a / s, b, t, by simp [lt], b0, b1, t0, by omega⟩⟩
    simp only [f20, v_con, v_var, v_peek, v_glob, v_tup, v_lst, v_cellL, v_bin, v_cmp, v_chain, v_and, v_or, v_not, v_ite, v_idx, v_slice, v_rev, v_call, v_prim, v_meth, v_neg, evEs, evAs, evA, evI, evT, evIt, evB_cons, evB_nil, s_ite, s_ret, s_set, s_expr, s_raise, s_freeze, s_setT, s_put, s_par, s_for, p_ok, b_ok, b_ra, t_ok, t_ra, l_ok, cm_ok, q_nx, q_ret, q_ra, c_t, c_f, tr_bl, f_ret, f_nx, f_ra, nx_some, varD, peekD, setO, List.getElem?_cons_zero, List.getElem?_cons_succ, List.cons_append, List.nil_append, List.append_nil, List.replicate, Nat.sub_self, List.set_cons_zero, List.set_cons_succ, List.length_cons, List.length_nil, Option.map_some, Option.map_none, Option.bind_some, if_true, reduceIte, Nat.reduceAdd, Nat.reduceLT, Nat.reduceSub, Bool.not_true, Bool.not_false, Bool.false_eq_true, Bool.false_and, Bool.true_and, Bool.and_false, Bool.and_true, primD, intO, items, cmpD, x0, hc, pm, pd, put_ok (ρ := [.val (.cell c), .val (.int s), .val (.int (a % s)), .non]) (i := 0) rfl, put_cell (ρ := [.val (.cell c), .val (.int s), .val (.int (a % s)), .non]) (i := 0) (k := 0) (m := 0) rfl e rfl]
  | false =>
    have e' : (st.set c [.int a, .int b, .int (t + 1)])[c]? = some [.int a, .int b, .int (t + 1)] := by simp [lt]
    obtain ⟨y0, y1, y2⟩ := c_ix e'
    have q1 : binD .add (.int t) (.int 1) = some (.int (t + 1)) := rfl
    have q2 : binD .mul (.int 15485867) (.int (t + 1)) = some (.int (15485867 * (t + 1))) := by simp [binD, smallI]
    have q3 : binD .add (.int b) (.int (15485867 * (t + 1))) = some (.int (b + 15485867 * (t + 1))) := rfl
    have q4 : binD .pow (.int (b + 15485867 * (t + 1))) (.int 5) = some (.int ((b + 15485867 * (t + 1)) ^ 5)) := by
      have : (b + 15485867 * (t + 1)).natAbs < 2 ^ 64 := by omega
      simp only [binD, decide_eq_true this]
      rfl
    generalize hz : (b + 15485867 * (t + 1)) ^ 5 = z at q4
    have q5 : binD .mod (.int z) (.int 2147483647) = some (.int (z % 2147483647)) := rfl
    have z0 := Int.emod_nonneg z (b := 2147483647) (by decide)
    have z1 := Int.emod_lt_of_pos z (b := 2147483647) (by decide)
    generalize z % 2147483647 = y at q5 z0 z1
    have q6 : binD .mul (.int 7919) (.int (t + 1)) = some (.int (7919 * (t + 1))) := by simp [binD, smallI]
    have q7 : binD .add (.int y) (.int (7919 * (t + 1))) = some (.int (y + 7919 * (t + 1))) := rfl
    have q8 : binD .pow (.int (y + 7919 * (t + 1))) (.int 3) = some (.int ((y + 7919 * (t + 1)) ^ 3)) := by
      have : (y + 7919 * (t + 1)).natAbs < 2 ^ 64 := by omega
      simp only [binD, decide_eq_true this]
      rfl
    generalize (y + 7919 * (t + 1)) ^ 3 = x at q8
    have q9 : binD .mod (.int x) (.int 2147483629) = some (.int (x % 2147483629)) := rfl
    have q10 : binD .fdiv (.int (x % 2147483629)) (.int 32) = some (.int (x % 2147483629 / 32)) := rfl
    refine ⟨(x % 2147483629 / 32) % s, st.set c [.int a, .int b, .int (t + 1)], ?_, Int.emod_nonneg _ (by omega), Int.emod_lt_of_pos _ h0, ⟨a, b, t + 1, e', b0, b1, by omega, by omega⟩⟩
    simp only [f20, v_con, v_var, v_peek, v_glob, v_tup, v_lst, v_cellL, v_bin, v_cmp, v_chain, v_and, v_or, v_not, v_ite, v_idx, v_slice, v_rev, v_call, v_prim, v_meth, v_neg, evEs, evAs, evA, evI, evT, evIt, evB_cons, evB_nil, s_ite, s_ret, s_set, s_expr, s_raise, s_freeze, s_setT, s_put, s_par, s_for, p_ok, b_ok, b_ra, t_ok, t_ra, l_ok, cm_ok, q_nx, q_ret, q_ra, c_t, c_f, tr_bl, f_ret, f_nx, f_ra, nx_some, varD, peekD, setO, List.getElem?_cons_zero, List.getElem?_cons_succ, List.cons_append, List.nil_append, List.append_nil, List.replicate, Nat.sub_self, List.set_cons_zero, List.set_cons_succ, List.length_cons, List.length_nil, Option.map_some, Option.map_none, Option.bind_some, if_true, reduceIte, Nat.reduceAdd, Nat.reduceLT, Nat.reduceSub, Bool.not_true, Bool.not_false, Bool.false_eq_true, Bool.false_and, Bool.true_and, Bool.and_false, Bool.and_true, primD, intO, items, cmpD, x0, x2, hc, q1, put_ok (ρ := [.val (.cell c), .val (.int s), .non, .non]) (i := 0) rfl, put_cell (ρ := [.val (.cell c), .val (.int s), .non, .non]) (i := 0) (k := 2) (m := 2) rfl e rfl, y1, y2, q2, q3, q4, q5, q6, q7, q8, q9, q10, pm]
theorem w__law_one (n : Nat) {st : Store} {c : Nat} {B : Int} {xs : List D} (h : Dk c B st) (hB : B < 1000000000) (h0 : xs ≠ []) (h1 : xs.length < 1073741824) :
    ∃ (y : D) (st' : Store), callN prog W (n + 2) 21 [.val (.cell c), .val (.lst xs)] st = .ok y st' ∧ y ∈ xs ∧ Dk c (B + 1) st' := by
  have pos : 0 < xs.length := List.length_pos_iff.mpr h0
  obtain ⟨k, st', e, k0, k1, d⟩ := w__law_pick n h hB (s := xs.length) (by omega) (by omega)
  have lt : k.toNat < xs.length := by omega
  have ix : idxD st' (.lst xs) (.int k) = some xs[k.toNat] := by
    have : k < (xs.length : Int) := k1
    simp [idxD, ixN, k0, this, lt]
  refine ⟨xs[k.toNat], st', ?_, List.getElem_mem lt, d⟩
  rw [call_def (d := f21) rfl rfl rfl]
  simp only [f21, v_con, v_var, v_peek, v_glob, v_tup, v_lst, v_cellL, v_bin, v_cmp, v_chain, v_and, v_or, v_not, v_ite, v_idx, v_slice, v_rev, v_call, v_prim, v_meth, v_neg, evEs, evAs, evA, evI, evT, evIt, evB_cons, evB_nil, s_ite, s_ret, s_set, s_expr, s_raise, s_freeze, s_setT, s_put, s_par, s_for, p_ok, b_ok, b_ra, t_ok, t_ra, l_ok, cm_ok, q_nx, q_ret, q_ra, c_t, c_f, tr_bl, f_ret, f_nx, f_ra, nx_some, varD, peekD, setO, List.getElem?_cons_zero, List.getElem?_cons_succ, List.cons_append, List.nil_append, List.append_nil, List.replicate, Nat.sub_self, List.set_cons_zero, List.set_cons_succ, List.length_cons, List.length_nil, Option.map_some, Option.map_none, Option.bind_some, if_true, reduceIte, Nat.reduceAdd, Nat.reduceLT, Nat.reduceSub, Bool.not_true, Bool.not_false, Bool.false_eq_true, Bool.false_and, Bool.true_and, Bool.and_false, Bool.and_true, primD, intO, items, e, ix]
end K02
end
section
set_option maxRecDepth 100000
set_option maxHeartbeats 4000000
/-! RdW: alike; drawn readers, texts; the program's answers. -/
namespace K02
open Mini Rdr
section
variable {L k n c : Nat} {st : Store}
def srt : D → Int
  | .bl _ => 1
  | .int _ => 2
  | .str _ => 3
  | .lst _ => 4
  | .tup _ => 5
  | _ => 6
theorem w_law_sort {v : D} (hv : Gd L k v) : callN prog W (n + 1) 22 [.val v] st = .ok (.int (srt v)) st := by
  rw [call_def (d := f22) rfl rfl rfl]
  cases hv <;> simp only [f22, v_con, v_var, v_peek, v_glob, v_tup, v_lst, v_cellL, v_bin, v_cmp, v_chain, v_and, v_or, v_not, v_ite, v_idx, v_slice, v_rev, v_call, v_prim, v_meth, v_neg, evEs, evAs, evA, evI, evT, evIt, evB_cons, evB_nil, s_ite, s_ret, s_set, s_expr, s_raise, s_freeze, s_setT, s_put, s_par, s_for, p_ok, b_ok, b_ra, t_ok, t_ra, l_ok, cm_ok, q_nx, q_ret, q_ra, c_t, c_f, tr_bl, f_ret, f_nx, f_ra, nx_some, varD, peekD, setO, List.getElem?_cons_zero, List.getElem?_cons_succ, List.cons_append, List.nil_append, List.append_nil, List.replicate, Nat.sub_self, List.set_cons_zero, List.set_cons_succ, List.length_cons, List.length_nil, Option.map_some, Option.map_none, Option.bind_some, if_true, reduceIte, Nat.reduceAdd, Nat.reduceLT, Nat.reduceSub, Bool.not_true, Bool.not_false, Bool.false_eq_true, Bool.false_and, Bool.true_and, Bool.and_false, Bool.and_true, primD, intO, items, srt]
theorem eq_self_iff {a b : Int} (h : a = b) : eqD (.int a) (.int b) = some true := by subst h; simp [eqD, okD, eqv]
theorem lt3 {a : Int} : cmpD .gt (.int a) (.int 3) = some (decide (3 < a)) := rfl
theorem w_same_leaf {v : D} (hv : Gd L k v) (hs : srt v ≤ 3 ∨ srt v = 6) (he : eqD v v = some true) : callN prog W (n + 2) 23 [.val v, .val v] st = .ok (.bl true) st := by
  rw [call_def (d := f23) rfl rfl rfl]
  have h1 : cmpD .gt (.int (srt v)) (.int 3) = some (decide (3 < srt v)) := rfl
  have h2 : cmpD .lt (.int (srt v)) (.int 6) = some (decide (srt v < 6)) := rfl
  have h3 : eqD (.int (srt v)) (.int (srt v)) = some true := eq_self_iff rfl
  rcases hs with hs | hs
  · have h4 : decide (3 < srt v) = false := decide_eq_false (by omega)
    simp only [f23, v_con, v_var, v_peek, v_glob, v_tup, v_lst, v_cellL, v_bin, v_cmp, v_chain, v_and, v_or, v_not, v_ite, v_idx, v_slice, v_rev, v_call, v_prim, v_meth, v_neg, evEs, evAs, evA, evI, evT, evIt, evB_cons, evB_nil, s_ite, s_ret, s_set, s_expr, s_raise, s_freeze, s_setT, s_put, s_par, s_for, p_ok, b_ok, b_ra, t_ok, t_ra, l_ok, cm_ok, q_nx, q_ret, q_ra, c_t, c_f, tr_bl, f_ret, f_nx, f_ra, nx_some, varD, peekD, setO, List.getElem?_cons_zero, List.getElem?_cons_succ, List.cons_append, List.nil_append, List.append_nil, List.replicate, Nat.sub_self, List.set_cons_zero, List.set_cons_succ, List.length_cons, List.length_nil, Option.map_some, Option.map_none, Option.bind_some, if_true, reduceIte, Nat.reduceAdd, Nat.reduceLT, Nat.reduceSub, Bool.not_true, Bool.not_false, Bool.false_eq_true, Bool.false_and, Bool.true_and, Bool.and_false, Bool.and_true, intO, ceq, cne, cge, cgt, cle, clt, cin, cnin, nb, reduceCtorEq, decide_true, decide_false, mt0, mt1, mt2, mt3, ml0, ml1, ml2, ml3, Int.reduceNeg, setOs, if_false, bt_name, bt2, bt3, bt4, w_law_sort hv, h3, h4, he]
  · have h4 : decide (3 < srt v) = true := decide_eq_true (by omega)
    have h5 : decide (srt v < 6) = false := decide_eq_false (by omega)
    simp only [f23, v_con, v_var, v_peek, v_glob, v_tup, v_lst, v_cellL, v_bin, v_cmp, v_chain, v_and, v_or, v_not, v_ite, v_idx, v_slice, v_rev, v_call, v_prim, v_meth, v_neg, evEs, evAs, evA, evI, evT, evIt, evB_cons, evB_nil, s_ite, s_ret, s_set, s_expr, s_raise, s_freeze, s_setT, s_put, s_par, s_for, p_ok, b_ok, b_ra, t_ok, t_ra, l_ok, cm_ok, q_nx, q_ret, q_ra, c_t, c_f, tr_bl, f_ret, f_nx, f_ra, nx_some, varD, peekD, setO, List.getElem?_cons_zero, List.getElem?_cons_succ, List.cons_append, List.nil_append, List.append_nil, List.replicate, Nat.sub_self, List.set_cons_zero, List.set_cons_succ, List.length_cons, List.length_nil, Option.map_some, Option.map_none, Option.bind_some, if_true, reduceIte, Nat.reduceAdd, Nat.reduceLT, Nat.reduceSub, Bool.not_true, Bool.not_false, Bool.false_eq_true, Bool.false_and, Bool.true_and, Bool.and_false, Bool.and_true, intO, ceq, cne, cge, cgt, cle, clt, cin, cnin, nb, reduceCtorEq, decide_true, decide_false, mt0, mt1, mt2, mt3, ml0, ml1, ml2, ml3, Int.reduceNeg, setOs, if_false, bt_name, bt2, bt3, bt4, w_law_sort hv, h3, h4, h5, he]
/-- a thing is as due if it is the thing due -/
theorem w_same (hL : L ≤ 10000000) : ∀ (k n : Nat) {v : D}, Gd L k v → callN prog W (n + k + 2) 23 [.val v, .val v] st = .ok (.bl true) st := by
  intro k
  induction k with
  | zero =>
    intro n v h
    have h0 := h
    cases h with
    | non => exact w_same_leaf h0 (.inr rfl) rfl
    | bl b => exact w_same_leaf h0 (by simp [srt]) (by simp [eqD, okD, eqv])
    | int i => exact w_same_leaf h0 (by simp [srt]) (by simp [eqD, okD, eqv])
    | str hs => exact w_same_leaf h0 (by simp [srt]) (by simp [eqD, okD, eqv])
  | succ k w_same =>
   intro n v h
   have h0 := h
   cases h with
   | non => exact w_same_leaf (n := n + (k + 1)) h0 (.inr rfl) rfl
   | bl b => exact w_same_leaf (n := n + (k + 1)) h0 (by simp [srt]) (by simp [eqD, okD, eqv])
   | int i => exact w_same_leaf (n := n + (k + 1)) h0 (by simp [srt]) (by simp [eqD, okD, eqv])
   | str hs => exact w_same_leaf (n := n + (k + 1)) h0 (by simp [srt]) (by simp [eqD, okD, eqv])
   | @tup _ xs hl hs =>
    have hE : evE prog.globs (callN prog W (n + k + 2)) f23c0 [.val (.tup xs), .val (.tup xs), .non, .non] st = .ok (.lst []) st := by
      refine e_none (xs := enumL 0 xs) (by simp only [v_con, v_var, v_peek, v_glob, v_tup, v_lst, v_cellL, v_bin, v_cmp, v_chain, v_and, v_or, v_not, v_ite, v_idx, v_slice, v_rev, v_call, v_prim, v_meth, v_neg, evEs, evAs, evA, evI, evT, evIt, evB_cons, evB_nil, s_ite, s_ret, s_set, s_expr, s_raise, s_freeze, s_setT, s_put, s_par, s_for, p_ok, b_ok, b_ra, t_ok, t_ra, l_ok, cm_ok, q_nx, q_ret, q_ra, c_t, c_f, tr_bl, f_ret, f_nx, f_ra, nx_some, varD, peekD, setO, List.getElem?_cons_zero, List.getElem?_cons_succ, List.cons_append, List.nil_append, List.append_nil, List.replicate, Nat.sub_self, List.set_cons_zero, List.set_cons_succ, List.length_cons, List.length_nil, Option.map_some, Option.map_none, Option.bind_some, if_true, reduceIte, Nat.reduceAdd, Nat.reduceLT, Nat.reduceSub, Bool.not_true, Bool.not_false, Bool.false_eq_true, Bool.false_and, Bool.true_and, Bool.and_false, Bool.and_true, intO, ceq, cne, cge, cgt, cle, clt, cin, cnin, nb, reduceCtorEq, decide_true, decide_false, mt0, mt1, mt2, mt3, ml0, ml1, ml2, ml3, Int.reduceNeg, setOs, if_false, bt_name, bt2, bt3, bt4]; rfl) (fun x hx => ?_) (by rw [enum_len]; exact line_le' hl (by omega))
      obtain ⟨i, y, rfl, hy⟩ := enum_mem xs 0 hx
      rw [Nat.zero_add]
      refine ⟨[.val (.tup xs), .val (.tup xs), .val (.int i), .val y], rfl, ?_⟩
      have ih := w_same n (hs y (List.mem_of_getElem? hy))
      have ix := (ix_get (st := st) hy).2
      have sl : slotsT (.tup [.name 2, .name 3]) = [2, 3] := rfl
      simp only [v_con, v_var, v_peek, v_glob, v_tup, v_lst, v_cellL, v_bin, v_cmp, v_chain, v_and, v_or, v_not, v_ite, v_idx, v_slice, v_rev, v_call, v_prim, v_meth, v_neg, evEs, evAs, evA, evI, evT, evIt, evB_cons, evB_nil, s_ite, s_ret, s_set, s_expr, s_raise, s_freeze, s_setT, s_put, s_par, s_for, p_ok, b_ok, b_ra, t_ok, t_ra, l_ok, cm_ok, q_nx, q_ret, q_ra, c_t, c_f, tr_bl, f_ret, f_nx, f_ra, nx_some, varD, peekD, setO, List.getElem?_cons_zero, List.getElem?_cons_succ, List.cons_append, List.nil_append, List.append_nil, List.replicate, Nat.sub_self, List.set_cons_zero, List.set_cons_succ, List.length_cons, List.length_nil, Option.map_some, Option.map_none, Option.bind_some, if_true, reduceIte, Nat.reduceAdd, Nat.reduceLT, Nat.reduceSub, Bool.not_true, Bool.not_false, Bool.false_eq_true, Bool.false_and, Bool.true_and, Bool.and_false, Bool.and_true, intO, ceq, cne, cge, cgt, cle, clt, cin, cnin, nb, reduceCtorEq, decide_true, decide_false, mt0, mt1, mt2, mt3, ml0, ml1, ml2, ml3, Int.reduceNeg, setOs, if_false, bt_name, bt2, bt3, bt4, ix, ih]
    rw [show n + (k + 1) + 2 = n + k + 2 + 1 by omega, call_def (d := f23) rfl rfl rfl]
    have h3 : eqD (.int 5) (.int 5) = some true := rfl
    have h4 : eqD (.int (xs.length : Int)) (.int (xs.length : Int)) = some true := eq_self_iff rfl
    have h5 : eqD (.lst []) (.lst []) = some true := rfl
    have pl : primD .len (.tup xs) = some (.int xs.length) := rfl
    have s5 : srt (.tup xs) = 5 := rfl
    have d1 : decide ((3 : Int) < 5) = true := rfl
    have d2 : decide ((5 : Int) < 6) = true := rfl
    simp only [f23, hE, v_con, v_var, v_peek, v_glob, v_tup, v_lst, v_cellL, v_bin, v_cmp, v_chain, v_and, v_or, v_not, v_ite, v_idx, v_slice, v_rev, v_call, v_prim, v_meth, v_neg, evEs, evAs, evA, evI, evT, evIt, evB_cons, evB_nil, s_ite, s_ret, s_set, s_expr, s_raise, s_freeze, s_setT, s_put, s_par, s_for, p_ok, b_ok, b_ra, t_ok, t_ra, l_ok, cm_ok, q_nx, q_ret, q_ra, c_t, c_f, tr_bl, f_ret, f_nx, f_ra, nx_some, varD, peekD, setO, List.getElem?_cons_zero, List.getElem?_cons_succ, List.cons_append, List.nil_append, List.append_nil, List.replicate, Nat.sub_self, List.set_cons_zero, List.set_cons_succ, List.length_cons, List.length_nil, Option.map_some, Option.map_none, Option.bind_some, if_true, reduceIte, Nat.reduceAdd, Nat.reduceLT, Nat.reduceSub, Bool.not_true, Bool.not_false, Bool.false_eq_true, Bool.false_and, Bool.true_and, Bool.and_false, Bool.and_true, intO, ceq, cne, cge, cgt, cle, clt, cin, cnin, nb, reduceCtorEq, decide_true, decide_false, mt0, mt1, mt2, mt3, ml0, ml1, ml2, ml3, Int.reduceNeg, setOs, if_false, bt_name, bt2, bt3, bt4, w_law_sort (n := n + k + 1) h0, s5, h3, h4, h5, pl, d1, d2]
   | @lst _ xs hl hs =>
    have hE : evE prog.globs (callN prog W (n + k + 2)) f23c0 [.val (.lst xs), .val (.lst xs), .non, .non] st = .ok (.lst []) st := by
      refine e_none (xs := enumL 0 xs) (by simp only [v_con, v_var, v_peek, v_glob, v_tup, v_lst, v_cellL, v_bin, v_cmp, v_chain, v_and, v_or, v_not, v_ite, v_idx, v_slice, v_rev, v_call, v_prim, v_meth, v_neg, evEs, evAs, evA, evI, evT, evIt, evB_cons, evB_nil, s_ite, s_ret, s_set, s_expr, s_raise, s_freeze, s_setT, s_put, s_par, s_for, p_ok, b_ok, b_ra, t_ok, t_ra, l_ok, cm_ok, q_nx, q_ret, q_ra, c_t, c_f, tr_bl, f_ret, f_nx, f_ra, nx_some, varD, peekD, setO, List.getElem?_cons_zero, List.getElem?_cons_succ, List.cons_append, List.nil_append, List.append_nil, List.replicate, Nat.sub_self, List.set_cons_zero, List.set_cons_succ, List.length_cons, List.length_nil, Option.map_some, Option.map_none, Option.bind_some, if_true, reduceIte, Nat.reduceAdd, Nat.reduceLT, Nat.reduceSub, Bool.not_true, Bool.not_false, Bool.false_eq_true, Bool.false_and, Bool.true_and, Bool.and_false, Bool.and_true, intO, ceq, cne, cge, cgt, cle, clt, cin, cnin, nb, reduceCtorEq, decide_true, decide_false, mt0, mt1, mt2, mt3, ml0, ml1, ml2, ml3, Int.reduceNeg, setOs, if_false, bt_name, bt2, bt3, bt4]; rfl) (fun x hx => ?_) (by rw [enum_len]; exact line_le' hl (by omega))
      obtain ⟨i, y, rfl, hy⟩ := enum_mem xs 0 hx
      rw [Nat.zero_add]
      refine ⟨[.val (.lst xs), .val (.lst xs), .val (.int i), .val y], rfl, ?_⟩
      have ih := w_same n (hs y (List.mem_of_getElem? hy))
      have ix := (ix_get (st := st) hy).1
      simp only [v_con, v_var, v_peek, v_glob, v_tup, v_lst, v_cellL, v_bin, v_cmp, v_chain, v_and, v_or, v_not, v_ite, v_idx, v_slice, v_rev, v_call, v_prim, v_meth, v_neg, evEs, evAs, evA, evI, evT, evIt, evB_cons, evB_nil, s_ite, s_ret, s_set, s_expr, s_raise, s_freeze, s_setT, s_put, s_par, s_for, p_ok, b_ok, b_ra, t_ok, t_ra, l_ok, cm_ok, q_nx, q_ret, q_ra, c_t, c_f, tr_bl, f_ret, f_nx, f_ra, nx_some, varD, peekD, setO, List.getElem?_cons_zero, List.getElem?_cons_succ, List.cons_append, List.nil_append, List.append_nil, List.replicate, Nat.sub_self, List.set_cons_zero, List.set_cons_succ, List.length_cons, List.length_nil, Option.map_some, Option.map_none, Option.bind_some, if_true, reduceIte, Nat.reduceAdd, Nat.reduceLT, Nat.reduceSub, Bool.not_true, Bool.not_false, Bool.false_eq_true, Bool.false_and, Bool.true_and, Bool.and_false, Bool.and_true, intO, ceq, cne, cge, cgt, cle, clt, cin, cnin, nb, reduceCtorEq, decide_true, decide_false, mt0, mt1, mt2, mt3, ml0, ml1, ml2, ml3, Int.reduceNeg, setOs, if_false, bt_name, bt2, bt3, bt4, ix, ih]
    rw [show n + (k + 1) + 2 = n + k + 2 + 1 by omega, call_def (d := f23) rfl rfl rfl]
    have h3 : eqD (.int 4) (.int 4) = some true := rfl
    have h4 : eqD (.int (xs.length : Int)) (.int (xs.length : Int)) = some true := eq_self_iff rfl
    have h5 : eqD (.lst []) (.lst []) = some true := rfl
    have pl : primD .len (.lst xs) = some (.int xs.length) := rfl
    have s5 : srt (.lst xs) = 4 := rfl
    have d1 : decide ((3 : Int) < 4) = true := rfl
    have d2 : decide ((4 : Int) < 6) = true := rfl
    simp only [f23, hE, v_con, v_var, v_peek, v_glob, v_tup, v_lst, v_cellL, v_bin, v_cmp, v_chain, v_and, v_or, v_not, v_ite, v_idx, v_slice, v_rev, v_call, v_prim, v_meth, v_neg, evEs, evAs, evA, evI, evT, evIt, evB_cons, evB_nil, s_ite, s_ret, s_set, s_expr, s_raise, s_freeze, s_setT, s_put, s_par, s_for, p_ok, b_ok, b_ra, t_ok, t_ra, l_ok, cm_ok, q_nx, q_ret, q_ra, c_t, c_f, tr_bl, f_ret, f_nx, f_ra, nx_some, varD, peekD, setO, List.getElem?_cons_zero, List.getElem?_cons_succ, List.cons_append, List.nil_append, List.append_nil, List.replicate, Nat.sub_self, List.set_cons_zero, List.set_cons_succ, List.length_cons, List.length_nil, Option.map_some, Option.map_none, Option.bind_some, if_true, reduceIte, Nat.reduceAdd, Nat.reduceLT, Nat.reduceSub, Bool.not_true, Bool.not_false, Bool.false_eq_true, Bool.false_and, Bool.true_and, Bool.and_false, Bool.and_true, intO, ceq, cne, cge, cgt, cle, clt, cin, cnin, nb, reduceCtorEq, decide_true, decide_false, mt0, mt1, mt2, mt3, ml0, ml1, ml2, ml3, Int.reduceNeg, setOs, if_false, bt_name, bt2, bt3, bt4, w_law_sort (n := n + k + 1) h0, s5, h3, h4, h5, pl, d1, d2]
end
section
variable {c : Nat}
theorem ml6 {a b c d e f : D} : mkLst [a, b, c, d, e, f] = some (.lst [a, b, c, d, e, f]) := rfl
/-- a drawn reader -/
theorem w_law_a_reader (n : Nat) {m : Nat} {p : Nat} {st : Store} {B : Int} (h : Dk c B st) (hB : B < 999999000) (hm : 1 ≤ m) (hm3 : m ≤ 3) (hp : 1 ≤ p) (hp3 : p ≤ 3) :
    ∃ (r : R) (st' : Store), callN prog W (n + 3) 34 [.val (.cell c), .val (.int m), .val (.int p)] st = .ok (eR r) st' ∧ r.ks.length = m ∧ r.Ok ∧ r.d ≤ p ∧ Dk c (B + 5) st' := by
  have key := @e_rng prog.globs (callN prog W (n + 2)) [.val (.cell c), .val (.int m), .val (.int p), .val (.lst [.str [110, 101, 115, 116], .str [110, 101, 115, 116], .str [114, 97, 119], .str [118, 111, 105, 100], .str [115, 101, 108, 102], .str [109, 111, 100, 101]]), .non, .non] st st 5 (.call 21 [(.e (.var 0)), (.e (.var 3))]) (.var 1) m (fun k st => Dk c (B + k) st) (fun y => ∃ k : K, y = eK k) (by simp only [v_con, v_var, v_peek, v_glob, v_tup, v_lst, v_cellL, v_bin, v_cmp, v_chain, v_and, v_or, v_not, v_ite, v_idx, v_slice, v_rev, v_call, v_prim, v_meth, v_neg, evEs, evAs, evA, evI, evT, evIt, evB_cons, evB_nil, s_ite, s_ret, s_set, s_expr, s_raise, s_freeze, s_setT, s_put, s_par, s_for, p_ok, b_ok, b_ra, t_ok, t_ra, l_ok, cm_ok, q_nx, q_ret, q_ra, c_t, c_f, tr_bl, f_ret, f_nx, f_ra, nx_some, varD, peekD, setO, List.getElem?_cons_zero, List.getElem?_cons_succ, List.cons_append, List.nil_append, List.append_nil, List.replicate, Nat.sub_self, List.set_cons_zero, List.set_cons_succ, List.length_cons, List.length_nil, Option.map_some, Option.map_none, Option.bind_some, if_true, reduceIte, Nat.reduceAdd, Nat.reduceLT, Nat.reduceSub, Bool.not_true, Bool.not_false, Bool.false_eq_true, Bool.false_and, Bool.true_and, Bool.and_false, Bool.and_true, intO, ceq, cne, cge, cgt, cle, clt, cin, cnin, nb, reduceCtorEq, decide_true, decide_false, mt0, mt1, mt2, mt3, ml0, ml1, ml2, ml3, Int.reduceNeg, setOs, if_false, bt_name, bt2, bt3, bt4]) (by omega) (by simpa using h) (fun x k st hk hI => by
    obtain ⟨y, st', e, hy, d⟩ := w__law_one n (xs := [.str [110, 101, 115, 116], .str [110, 101, 115, 116], .str [114, 97, 119], .str [118, 111, 105, 100], .str [115, 101, 108, 102], .str [109, 111, 100, 101]]) hI (by omega) (by simp) (by simp)
    refine ⟨y, st', by simp only [v_con, v_var, v_peek, v_glob, v_tup, v_lst, v_cellL, v_bin, v_cmp, v_chain, v_and, v_or, v_not, v_ite, v_idx, v_slice, v_rev, v_call, v_prim, v_meth, v_neg, evEs, evAs, evA, evI, evT, evIt, evB_cons, evB_nil, s_ite, s_ret, s_set, s_expr, s_raise, s_freeze, s_setT, s_put, s_par, s_for, p_ok, b_ok, b_ra, t_ok, t_ra, l_ok, cm_ok, q_nx, q_ret, q_ra, c_t, c_f, tr_bl, f_ret, f_nx, f_ra, nx_some, varD, peekD, setO, List.getElem?_cons_zero, List.getElem?_cons_succ, List.cons_append, List.nil_append, List.append_nil, List.replicate, Nat.sub_self, List.set_cons_zero, List.set_cons_succ, List.length_cons, List.length_nil, Option.map_some, Option.map_none, Option.bind_some, if_true, reduceIte, Nat.reduceAdd, Nat.reduceLT, Nat.reduceSub, Bool.not_true, Bool.not_false, Bool.false_eq_true, Bool.false_and, Bool.true_and, Bool.and_false, Bool.and_true, intO, ceq, cne, cge, cgt, cle, clt, cin, cnin, nb, reduceCtorEq, decide_true, decide_false, mt0, mt1, mt2, mt3, ml0, ml1, ml2, ml3, Int.reduceNeg, setOs, if_false, bt_name, bt2, bt3, bt4, e], d.mono (by omega), ?_⟩
    simp only [List.mem_cons, List.not_mem_nil, or_false] at hy
    rcases hy with rfl | rfl | rfl | rfl | rfl | rfl
    · exact ⟨.nest, rfl⟩
    · exact ⟨.nest, rfl⟩
    · exact ⟨.raw, rfl⟩
    · exact ⟨.void, rfl⟩
    · exact ⟨.self, rfl⟩
    · exact ⟨.mode, rfl⟩) (by simp)
  obtain ⟨ks, st1, e1, d1, hy, hl⟩ := key
  have hks : ∃ ks' : List K, ks = ks'.map eK := by
    clear e1 hl
    induction ks with
    | nil => exact ⟨[], rfl⟩
    | cons y ys ih =>
      obtain ⟨k, rfl⟩ := hy y (by simp)
      obtain ⟨ks', rfl⟩ := ih fun z hz => hy z (by simp [hz])
      exact ⟨k :: ks', rfl⟩
  obtain ⟨ks', rfl⟩ := hks
  obtain ⟨a, st2, e2, ha, d2⟩ := w__law_one n (xs := [.str [112, 97, 115, 115], .str [115, 101, 97, 114, 99, 104], .str [116, 111, 112]]) d1 (by omega) (by simp) (by simp)
  obtain ⟨q, st3, e3, q0, q1, d3⟩ := w__law_pick (n + 1) d2 (by omega) (s := p) (by omega) (by omega)
  obtain ⟨hb, rfl⟩ : ∃ hb : Hb, a = eH hb := by
    simp only [List.mem_cons, List.not_mem_nil, or_false] at ha
    rcases ha with rfl | rfl | rfl
    · exact ⟨.pass, rfl⟩
    · exact ⟨.search, rfl⟩
    · exact ⟨.top, rfl⟩
  obtain ⟨j, rfl⟩ := Int.eq_ofNat_of_zero_le q0
  rw [List.length_map] at hl
  refine ⟨⟨ks', hb, 1 + j⟩, st3, ?_, hl, ⟨by rw [hl]; exact hm, by rw [hl]; exact hm3, by simp, by simp; omega⟩, by simp; omega, d3.mono (by omega)⟩
  rw [call_def (d := f34) rfl rfl rfl]
  have e1' : evE prog.globs (callN prog W (n + 2)) f34c0 [.val (.cell c), .val (.int m), .val (.int p), .val (.lst [.str [110, 101, 115, 116], .str [110, 101, 115, 116], .str [114, 97, 119], .str [118, 111, 105, 100], .str [115, 101, 108, 102], .str [109, 111, 100, 101]]), .non, .non] st = .ok (.lst (ks'.map eK)) st1 := e1
  simp only [f34, v_con, v_var, v_peek, v_glob, v_tup, v_lst, v_cellL, v_bin, v_cmp, v_chain, v_and, v_or, v_not, v_ite, v_idx, v_slice, v_rev, v_call, v_prim, v_meth, v_neg, evEs, evAs, evA, evI, evT, evIt, evB_cons, evB_nil, s_ite, s_ret, s_set, s_expr, s_raise, s_freeze, s_setT, s_put, s_par, s_for, p_ok, b_ok, b_ra, t_ok, t_ra, l_ok, cm_ok, q_nx, q_ret, q_ra, c_t, c_f, tr_bl, f_ret, f_nx, f_ra, nx_some, varD, peekD, setO, List.getElem?_cons_zero, List.getElem?_cons_succ, List.cons_append, List.nil_append, List.append_nil, List.replicate, Nat.sub_self, List.set_cons_zero, List.set_cons_succ, List.length_cons, List.length_nil, Option.map_some, Option.map_none, Option.bind_some, if_true, reduceIte, Nat.reduceAdd, Nat.reduceLT, Nat.reduceSub, Bool.not_true, Bool.not_false, Bool.false_eq_true, Bool.false_and, Bool.true_and, Bool.and_false, Bool.and_true, intO, ceq, cne, cge, cgt, cle, clt, cin, cnin, nb, reduceCtorEq, decide_true, decide_false, mt0, mt1, mt2, mt3, ml0, ml1, ml2, ml3, Int.reduceNeg, setOs, if_false, bt_name, bt2, bt3, bt4, ml6, e1', pt_l', e2, e3, add_i']
  rfl
/-- a drawn text -/
theorem w_law_a_text (n : Nat) {m : Nat} {M : Nat} {st : Store} {B : Int} (h : Dk c B st) (hB : B < 999990000) (hm : m = 1 ∨ m = 2 ∨ m = 3) (hM : M ≤ 40) :
    ∃ (ms : List Mk) (st' : Store), callN prog W (n + 3) 35 [.val (.cell c), .val (.int m), .val (.int M)] st = .ok (.tup (ms.map eM)) st' ∧ ms.length ≤ M ∧ (∀ x ∈ ms, MOk m x) ∧ Dk c (B + 50) st' := by
  obtain ⟨q, st1, e1, q0, q1, d1⟩ := w__law_pick (n + 1) h (by omega) (s := (M : Int) + 1) (by omega) (by omega)
  obtain ⟨j, rfl⟩ := Int.eq_ofNat_of_zero_le q0
  have hmm : (m : Int) = 1 ∨ (m : Int) = 2 ∨ (m : Int) = 3 := by omega
  have mkp : (marks m).map eM ≠ [] ∧ ((marks m).map eM).length < 100 := by
    rcases hm with e | e | e <;> rw [e] <;> exact ⟨by simp [marks], by decide⟩
  have key := @e_rng prog.globs (callN prog W (n + 2)) [.val (.cell c), .val (.int m), .val (.int M), .non] st st1 3 (.call 21 [(.e (.var 0)), (.e (.call 27 [(.e (.var 1))]))]) (.call 20 [(.e (.var 0)), (.e (.bin .add (.var 2) (.con (.int 1))))]) j (fun k st => Dk c (B + 1 + k) st) (fun y => ∃ x, MOk m x ∧ y = eM x) (by simp only [v_con, v_var, v_peek, v_glob, v_tup, v_lst, v_cellL, v_bin, v_cmp, v_chain, v_and, v_or, v_not, v_ite, v_idx, v_slice, v_rev, v_call, v_prim, v_meth, v_neg, evEs, evAs, evA, evI, evT, evIt, evB_cons, evB_nil, s_ite, s_ret, s_set, s_expr, s_raise, s_freeze, s_setT, s_put, s_par, s_for, p_ok, b_ok, b_ra, t_ok, t_ra, l_ok, cm_ok, q_nx, q_ret, q_ra, c_t, c_f, tr_bl, f_ret, f_nx, f_ra, nx_some, varD, peekD, setO, List.getElem?_cons_zero, List.getElem?_cons_succ, List.cons_append, List.nil_append, List.append_nil, List.replicate, Nat.sub_self, List.set_cons_zero, List.set_cons_succ, List.length_cons, List.length_nil, Option.map_some, Option.map_none, Option.bind_some, if_true, reduceIte, Nat.reduceAdd, Nat.reduceLT, Nat.reduceSub, Bool.not_true, Bool.not_false, Bool.false_eq_true, Bool.false_and, Bool.true_and, Bool.and_false, Bool.and_true, intO, ceq, cne, cge, cgt, cle, clt, cin, cnin, nb, reduceCtorEq, decide_true, decide_false, mt0, mt1, mt2, mt3, ml0, ml1, ml2, ml3, Int.reduceNeg, setOs, if_false, bt_name, bt2, bt3, bt4, add_i', e1]) (by omega) (by simpa using d1) (fun x k st hk hI => by
    obtain ⟨y, st', e, hy, d⟩ := w__law_one n (xs := (marks m).map eM) hI (by omega) mkp.1 (by omega)
    refine ⟨y, st', by simp only [v_con, v_var, v_peek, v_glob, v_tup, v_lst, v_cellL, v_bin, v_cmp, v_chain, v_and, v_or, v_not, v_ite, v_idx, v_slice, v_rev, v_call, v_prim, v_meth, v_neg, evEs, evAs, evA, evI, evT, evIt, evB_cons, evB_nil, s_ite, s_ret, s_set, s_expr, s_raise, s_freeze, s_setT, s_put, s_par, s_for, p_ok, b_ok, b_ra, t_ok, t_ra, l_ok, cm_ok, q_nx, q_ret, q_ra, c_t, c_f, tr_bl, f_ret, f_nx, f_ra, nx_some, varD, peekD, setO, List.getElem?_cons_zero, List.getElem?_cons_succ, List.cons_append, List.nil_append, List.append_nil, List.replicate, Nat.sub_self, List.set_cons_zero, List.set_cons_succ, List.length_cons, List.length_nil, Option.map_some, Option.map_none, Option.bind_some, if_true, reduceIte, Nat.reduceAdd, Nat.reduceLT, Nat.reduceSub, Bool.not_true, Bool.not_false, Bool.false_eq_true, Bool.false_and, Bool.true_and, Bool.and_false, Bool.and_true, intO, ceq, cne, cge, cgt, cle, clt, cin, cnin, nb, reduceCtorEq, decide_true, decide_false, mt0, mt1, mt2, mt3, ml0, ml1, ml2, ml3, Int.reduceNeg, setOs, if_false, bt_name, bt2, bt3, bt4, w__law_marks (n + 1) st hmm, (mk_marks hm).1, e], d.mono (by omega), ?_⟩
    obtain ⟨w, hw, rfl⟩ := List.mem_map.mp hy
    exact ⟨w, marks_ok hw, rfl⟩) (by simp)
  obtain ⟨xs, st2, e2, d2, hy, hl⟩ := key
  have hxs : ∃ ms : List Mk, xs = ms.map eM ∧ ∀ x ∈ ms, MOk m x := by
    clear e2 hl
    induction xs with
    | nil => exact ⟨[], rfl, by simp⟩
    | cons y ys ih =>
      obtain ⟨x, hx, rfl⟩ := hy y (by simp)
      obtain ⟨ms, rfl, hms⟩ := ih fun z hz => hy z (by simp [hz])
      exact ⟨x :: ms, rfl, fun z hz => by
        rcases List.mem_cons.mp hz with rfl | hz
        · exact hx
        · exact hms z hz⟩
  obtain ⟨ms, rfl, hms⟩ := hxs
  rw [List.length_map] at hl
  refine ⟨ms, st2, ?_, by omega, hms, d2.mono (by omega)⟩
  rw [call_def (d := f35) rfl rfl rfl]
  have e2' : evE prog.globs (callN prog W (n + 2)) f35c0 [.val (.cell c), .val (.int m), .val (.int M), .non] st = .ok (.lst (ms.map eM)) st2 := e2
  simp only [f35, v_con, v_var, v_peek, v_glob, v_tup, v_lst, v_cellL, v_bin, v_cmp, v_chain, v_and, v_or, v_not, v_ite, v_idx, v_slice, v_rev, v_call, v_prim, v_meth, v_neg, evEs, evAs, evA, evI, evT, evIt, evB_cons, evB_nil, s_ite, s_ret, s_set, s_expr, s_raise, s_freeze, s_setT, s_put, s_par, s_for, p_ok, b_ok, b_ra, t_ok, t_ra, l_ok, cm_ok, q_nx, q_ret, q_ra, c_t, c_f, tr_bl, f_ret, f_nx, f_ra, nx_some, varD, peekD, setO, List.getElem?_cons_zero, List.getElem?_cons_succ, List.cons_append, List.nil_append, List.append_nil, List.replicate, Nat.sub_self, List.set_cons_zero, List.set_cons_succ, List.length_cons, List.length_nil, Option.map_some, Option.map_none, Option.bind_some, if_true, reduceIte, Nat.reduceAdd, Nat.reduceLT, Nat.reduceSub, Bool.not_true, Bool.not_false, Bool.false_eq_true, Bool.false_and, Bool.true_and, Bool.and_false, Bool.and_true, intO, ceq, cne, cge, cgt, cle, clt, cin, cnin, nb, reduceCtorEq, decide_true, decide_false, mt0, mt1, mt2, mt3, ml0, ml1, ml2, ml3, Int.reduceNeg, setOs, if_false, bt_name, bt2, bt3, bt4, e2', pt_l']
end
section
variable {r : R} {n : Nat} {st : Store}
theorem w_read {ms : List Mk} (hr : r.Ok) (hl : ms.length ≤ 40) (hm : ∀ m ∈ ms, MOk r.ks.length m) : callN prog W (n + 5) 17 [.val (eR r), .val (.tup (ms.map eM))] st = .ok (eT (Rdr.read r ms)) st := by
  rw [call_def (d := f17) rfl rfl rfl]
  have pl : primD .len (.tup (r.ks.map eK)) = some (.int r.ks.length) := by simp [primD]
  have hd := deeds_len hr ms
  simp only [f17, v_con, v_var, v_peek, v_glob, v_tup, v_lst, v_cellL, v_bin, v_cmp, v_chain, v_and, v_or, v_not, v_ite, v_idx, v_slice, v_rev, v_call, v_prim, v_meth, v_neg, evEs, evAs, evA, evI, evT, evIt, evB_cons, evB_nil, s_ite, s_ret, s_set, s_expr, s_raise, s_freeze, s_setT, s_put, s_par, s_for, p_ok, b_ok, b_ra, t_ok, t_ra, l_ok, cm_ok, q_nx, q_ret, q_ra, c_t, c_f, tr_bl, f_ret, f_nx, f_ra, nx_some, varD, peekD, setO, List.getElem?_cons_zero, List.getElem?_cons_succ, List.cons_append, List.nil_append, List.append_nil, List.replicate, Nat.sub_self, List.set_cons_zero, List.set_cons_succ, List.length_cons, List.length_nil, Option.map_some, Option.map_none, Option.bind_some, if_true, reduceIte, Nat.reduceAdd, Nat.reduceLT, Nat.reduceSub, Bool.not_true, Bool.not_false, Bool.false_eq_true, Bool.false_and, Bool.true_and, Bool.and_false, Bool.and_true, intO, ceq, cne, cge, cgt, cle, clt, cin, cnin, nb, reduceCtorEq, decide_true, decide_false, mt0, mt1, mt2, mt3, ml0, ml1, ml2, ml3, Int.reduceNeg, setOs, if_false, bt_name, bt2, bt3, bt4, w_need_reader_e (n + 1) st hr, eR_0, pl, w_need_text_e (n + 1) st hr hl hm, w_all_deeds (n := n) (v := .tup (ms.map eM)) rfl hr hm (by omega), w_tree_of (n := n + 3) (deeds_fit r ms).1 (show (deeds r ms).length ≤ 900000 by omega)]
  rfl
end
end K02
end
section
set_option maxRecDepth 100000
set_option maxHeartbeats 4000000
namespace K02
open Mini Rdr
section
variable {r : R} {n : Nat} {st : Store}
theorem l_piles {ts : Sl} (h3 : r.ks.length ≤ 3) : ∀ (ms : List Mk) (p : Pile) (ds : List D) (s4 : Sl), POk r.ks.length p → (∀ m ∈ ms, MOk r.ks.length m) → p.length ≤ r.d → r.d ≤ 3 → ds.length + ms.length ≤ 1000000 →
    ∃ s2' s4', forL (.name 4) (evB prog.globs (callN prog W (n + 3)) W f18b0) (ms.map eM) [.val (eR r), ts, .val (eP p), .own (.lst ds), s4] st = .nx [.val (eR r), ts, s2', .own (.lst (ds ++ (pilesOf r p ms).map eP)), s4'] st
  | [], p, ds, s4, _, _, _, _, _ => ⟨_, s4, by rw [List.map_nil, fl_nil, pilesOf, List.map_nil, List.append_nil]⟩
  | m :: ms, p, ds, s4, hp, hm, hd, hd3, hl => by
    have hm0 := hm m List.mem_cons_self
    have ⟨hs1, hs2⟩ := step_len (m := m) hd
    rw [List.length_cons] at hl
    obtain ⟨s2', s4', ih⟩ := l_piles h3 ms (step r p m).1 (ds ++ [eP (step r p m).1]) (.val (eM m)) (step_ok hp hm0) (fun x hx => hm x (List.mem_cons_of_mem _ hx)) hs1 hd3 (by rw [List.length_append]; simp; omega)
    refine ⟨s2', s4', ?_⟩
    rw [List.map_cons, fl_cons (ρ1 := [.val (eR r), ts, .val (eP p), .own (.lst ds), .val (eM m)]) (by rfl) (ρ2 := [.val (eR r), ts, .val (eP (step r p m).1), .own (.lst (ds ++ [eP (step r p m).1])), .val (eM m)]) (st2 := st), ih]
    · simp [pilesOf, List.append_assoc]
    · have ap := s_append (G := prog.globs) (cf := callN prog W (n + 3)) (wf := W) (i := 3) (e := .var 2) (st := st) (ρ := [.val (eR r), ts, .val (eP (step r p m).1), .own (.lst ds), .val (eM m)]) (xs := ds) rfl
      have ft : fits (eP (step r p m).1 :: ds) = true := fits_l (by simp; omega)
      simp only [f18b0, v_con, v_var, v_peek, v_glob, v_tup, v_lst, v_cellL, v_bin, v_cmp, v_chain, v_and, v_or, v_not, v_ite, v_idx, v_slice, v_rev, v_call, v_prim, v_meth, v_neg, evEs, evAs, evA, evI, evT, evIt, evB_cons, evB_nil, s_ite, s_ret, s_set, s_expr, s_raise, s_freeze, s_setT, s_put, s_par, s_for, p_ok, b_ok, b_ra, t_ok, t_ra, l_ok, cm_ok, q_nx, q_ret, q_ra, c_t, c_f, tr_bl, f_ret, f_nx, f_ra, nx_some, varD, peekD, setO, List.getElem?_cons_zero, List.getElem?_cons_succ, List.cons_append, List.nil_append, List.append_nil, List.replicate, Nat.sub_self, List.set_cons_zero, List.set_cons_succ, List.length_cons, List.length_nil, Option.map_some, Option.map_none, Option.bind_some, if_true, reduceIte, Nat.reduceAdd, Nat.reduceLT, Nat.reduceSub, Bool.not_true, Bool.not_false, Bool.false_eq_true, Bool.false_and, Bool.true_and, Bool.and_false, Bool.and_true, intO, ceq, cne, cge, cgt, cle, clt, cin, cnin, nb, reduceCtorEq, decide_true, decide_false, mt0, mt1, mt2, mt3, ml0, ml1, ml2, ml3, Int.reduceNeg, setOs, if_false, bt_name, bt2, bt3, bt4, w_step hp hm0 h3 (by omega), iy0', ap, ft]
theorem w_piles {ms : List Mk} (hr : r.Ok) (hl : ms.length ≤ 40) (hm : ∀ m ∈ ms, MOk r.ks.length m) : callN prog W (n + 5) 18 [.val (eR r), .val (.tup (ms.map eM))] st = .ok (.lst ((pilesOf r [] ms).map eP)) st := by
  rw [call_def (d := f18) rfl rfl rfl]
  have pl : primD .len (.tup (r.ks.map eK)) = some (.int r.ks.length) := by simp [primD]
  obtain ⟨s2', s4', e⟩ := l_piles (n := n + 1) (st := st) (ts := .val (.tup (ms.map eM))) hr.n3 ms [] [] .non (by intro x hx; simp at hx) hm (by simp) hr.d3 (by simp; omega)
  rw [List.nil_append] at e
  have it : items (.tup (ms.map eM)) = some (ms.map eM) := rfl
  simp only [f18, v_con, v_var, v_peek, v_glob, v_tup, v_lst, v_cellL, v_bin, v_cmp, v_chain, v_and, v_or, v_not, v_ite, v_idx, v_slice, v_rev, v_call, v_prim, v_meth, v_neg, evEs, evAs, evA, evI, evT, evIt, evB_cons, evB_nil, s_ite, s_ret, s_set, s_expr, s_raise, s_freeze, s_setT, s_put, s_par, s_for, p_ok, b_ok, b_ra, t_ok, t_ra, l_ok, cm_ok, q_nx, q_ret, q_ra, c_t, c_f, tr_bl, f_ret, f_nx, f_ra, nx_some, varD, peekD, setO, List.getElem?_cons_zero, List.getElem?_cons_succ, List.cons_append, List.nil_append, List.append_nil, List.replicate, Nat.sub_self, List.set_cons_zero, List.set_cons_succ, List.length_cons, List.length_nil, Option.map_some, Option.map_none, Option.bind_some, if_true, reduceIte, Nat.reduceAdd, Nat.reduceLT, Nat.reduceSub, Bool.not_true, Bool.not_false, Bool.false_eq_true, Bool.false_and, Bool.true_and, Bool.and_false, Bool.and_true, intO, ceq, cne, cge, cgt, cle, clt, cin, cnin, nb, reduceCtorEq, decide_true, decide_false, mt0, mt1, mt2, mt3, ml0, ml1, ml2, ml3, Int.reduceNeg, setOs, if_false, bt_name, bt2, bt3, bt4, w_need_reader_e (n + 1) st hr, eR_0, pl, w_need_text_e (n + 1) st hr hl hm, ← eP_nil, it, e, s_freeze]
/-- the errors -/
theorem no_reader {v w : D} {f : Nat} (hf : f = 17 ∨ f = 18) {L k : Nat} (hL : L ≤ 1000) (hv : Gd L k v) (h : rdr v = false) : callN prog W (n + 5) f [.val v, .val w] st = .raise ⟨1, none⟩ st := by
  have e := w_need_reader (n + 1) st hL hv
  rw [h] at e
  have e : callN prog W (n + 4) 6 [.val v] st = .raise ⟨1, none⟩ st := e
  rcases hf with rfl | rfl
  · rw [call_def (d := f17) rfl rfl rfl]
    simp only [f17, v_con, v_var, v_peek, v_glob, v_tup, v_lst, v_cellL, v_bin, v_cmp, v_chain, v_and, v_or, v_not, v_ite, v_idx, v_slice, v_rev, v_call, v_prim, v_meth, v_neg, evEs, evAs, evA, evI, evT, evIt, evB_cons, evB_nil, s_ite, s_ret, s_set, s_expr, s_raise, s_freeze, s_setT, s_put, s_par, s_for, p_ok, b_ok, b_ra, t_ok, t_ra, l_ok, cm_ok, q_nx, q_ret, q_ra, c_t, c_f, tr_bl, f_ret, f_nx, f_ra, nx_some, varD, peekD, setO, List.getElem?_cons_zero, List.getElem?_cons_succ, List.cons_append, List.nil_append, List.append_nil, List.replicate, Nat.sub_self, List.set_cons_zero, List.set_cons_succ, List.length_cons, List.length_nil, Option.map_some, Option.map_none, Option.bind_some, if_true, reduceIte, Nat.reduceAdd, Nat.reduceLT, Nat.reduceSub, Bool.not_true, Bool.not_false, Bool.false_eq_true, Bool.false_and, Bool.true_and, Bool.and_false, Bool.and_true, intO, ceq, cne, cge, cgt, cle, clt, cin, cnin, nb, reduceCtorEq, decide_true, decide_false, mt0, mt1, mt2, mt3, ml0, ml1, ml2, ml3, Int.reduceNeg, setOs, if_false, bt_name, bt2, bt3, bt4, e, t_ra, b_ra]
  · rw [call_def (d := f18) rfl rfl rfl]
    simp only [f18, v_con, v_var, v_peek, v_glob, v_tup, v_lst, v_cellL, v_bin, v_cmp, v_chain, v_and, v_or, v_not, v_ite, v_idx, v_slice, v_rev, v_call, v_prim, v_meth, v_neg, evEs, evAs, evA, evI, evT, evIt, evB_cons, evB_nil, s_ite, s_ret, s_set, s_expr, s_raise, s_freeze, s_setT, s_put, s_par, s_for, p_ok, b_ok, b_ra, t_ok, t_ra, l_ok, cm_ok, q_nx, q_ret, q_ra, c_t, c_f, tr_bl, f_ret, f_nx, f_ra, nx_some, varD, peekD, setO, List.getElem?_cons_zero, List.getElem?_cons_succ, List.cons_append, List.nil_append, List.append_nil, List.replicate, Nat.sub_self, List.set_cons_zero, List.set_cons_succ, List.length_cons, List.length_nil, Option.map_some, Option.map_none, Option.bind_some, if_true, reduceIte, Nat.reduceAdd, Nat.reduceLT, Nat.reduceSub, Bool.not_true, Bool.not_false, Bool.false_eq_true, Bool.false_and, Bool.true_and, Bool.and_false, Bool.and_true, intO, ceq, cne, cge, cgt, cle, clt, cin, cnin, nb, reduceCtorEq, decide_true, decide_false, mt0, mt1, mt2, mt3, ml0, ml1, ml2, ml3, Int.reduceNeg, setOs, if_false, bt_name, bt2, bt3, bt4, e, t_ra, b_ra]
theorem no_text {v : D} {f : Nat} (hf : f = 17 ∨ f = 18) {L k : Nat} (hr : r.Ok) (hL : L ≤ 1000) (hv : Gd L k v) (h : txtB r.ks.length v = false) : callN prog W (n + 5) f [.val (eR r), .val v] st = .raise ⟨4, none⟩ st := by
  have e := w_need_text (n + 1) st (many_orI hr) hL hv
  rw [h] at e
  have e : callN prog W (n + 4) 7 [.val (.int r.ks.length), .val v] st = .raise ⟨4, none⟩ st := e
  have pl : primD .len (.tup (r.ks.map eK)) = some (.int r.ks.length) := by simp [primD]
  rcases hf with rfl | rfl
  · rw [call_def (d := f17) rfl rfl rfl]
    simp only [f17, v_con, v_var, v_peek, v_glob, v_tup, v_lst, v_cellL, v_bin, v_cmp, v_chain, v_and, v_or, v_not, v_ite, v_idx, v_slice, v_rev, v_call, v_prim, v_meth, v_neg, evEs, evAs, evA, evI, evT, evIt, evB_cons, evB_nil, s_ite, s_ret, s_set, s_expr, s_raise, s_freeze, s_setT, s_put, s_par, s_for, p_ok, b_ok, b_ra, t_ok, t_ra, l_ok, cm_ok, q_nx, q_ret, q_ra, c_t, c_f, tr_bl, f_ret, f_nx, f_ra, nx_some, varD, peekD, setO, List.getElem?_cons_zero, List.getElem?_cons_succ, List.cons_append, List.nil_append, List.append_nil, List.replicate, Nat.sub_self, List.set_cons_zero, List.set_cons_succ, List.length_cons, List.length_nil, Option.map_some, Option.map_none, Option.bind_some, if_true, reduceIte, Nat.reduceAdd, Nat.reduceLT, Nat.reduceSub, Bool.not_true, Bool.not_false, Bool.false_eq_true, Bool.false_and, Bool.true_and, Bool.and_false, Bool.and_true, intO, ceq, cne, cge, cgt, cle, clt, cin, cnin, nb, reduceCtorEq, decide_true, decide_false, mt0, mt1, mt2, mt3, ml0, ml1, ml2, ml3, Int.reduceNeg, setOs, if_false, bt_name, bt2, bt3, bt4, w_need_reader_e (n + 1) st hr, eR_0, pl, e, t_ra, b_ra]
  · rw [call_def (d := f18) rfl rfl rfl]
    simp only [f18, v_con, v_var, v_peek, v_glob, v_tup, v_lst, v_cellL, v_bin, v_cmp, v_chain, v_and, v_or, v_not, v_ite, v_idx, v_slice, v_rev, v_call, v_prim, v_meth, v_neg, evEs, evAs, evA, evI, evT, evIt, evB_cons, evB_nil, s_ite, s_ret, s_set, s_expr, s_raise, s_freeze, s_setT, s_put, s_par, s_for, p_ok, b_ok, b_ra, t_ok, t_ra, l_ok, cm_ok, q_nx, q_ret, q_ra, c_t, c_f, tr_bl, f_ret, f_nx, f_ra, nx_some, varD, peekD, setO, List.getElem?_cons_zero, List.getElem?_cons_succ, List.cons_append, List.nil_append, List.append_nil, List.replicate, Nat.sub_self, List.set_cons_zero, List.set_cons_succ, List.length_cons, List.length_nil, Option.map_some, Option.map_none, Option.bind_some, if_true, reduceIte, Nat.reduceAdd, Nat.reduceLT, Nat.reduceSub, Bool.not_true, Bool.not_false, Bool.false_eq_true, Bool.false_and, Bool.true_and, Bool.and_false, Bool.and_true, intO, ceq, cne, cge, cgt, cle, clt, cin, cnin, nb, reduceCtorEq, decide_true, decide_false, mt0, mt1, mt2, mt3, ml0, ml1, ml2, ml3, Int.reduceNeg, setOs, if_false, bt_name, bt2, bt3, bt4, w_need_reader_e (n + 1) st hr, eR_0, pl, e, t_ra, b_ra]
theorem w_written : callN prog W 40 36 [] st = .ok (.bl true) st := rfl
end
end K02
end
section
set_option maxRecDepth 100000
set_option maxHeartbeats 4000000
namespace K02
open Mini Rdr
theorem gdLt {L M k k' : Nat} {v : D} (h : Gd L k v) (h1 : L ≤ M) (h2 : k ≤ k') : Gd M k' v := h.mono h1 h2
section
variable {c : Nat}
theorem t_not : truth (.bl true) = some true := rfl
theorem not_bl {b : Bool} : (truth (.bl b)).map (fun b => D.bl (!b)) = some (.bl (!b)) := rfl
theorem turn_body {m j M : Nat} {r : D} {ms t pl v7 : D} {s x u3 u4 u5 u6 u7 u8 u9 u10 : Sl} {st st1 st2 st3 st4 : Store}
    (e1 : callN prog W 40 20 [.val (.cell c), .val (.int 3)] st = .ok (.int j) st1) (hm : (1 : Int) + (j : Int) = (m : Int))
    (e2 : callN prog W 40 34 [.val (.cell c), .val (.int m), .val (.int 3)] st1 = .ok r st2)
    (e3 : callN prog W 40 21 [.val (.cell c), .val (.lst [.int 5, .int 12, .int 40])] st2 = .ok (.int M) st3)
    (e4 : callN prog W 40 35 [.val (.cell c), .val (.int m), .val (.int M)] st3 = .ok ms st4)
    (e5 : callN prog W 40 17 [.val r, .val ms] st4 = .ok t st4) (e6 : callN prog W 40 33 [.val r, .val ms] st4 = .ok (.tup [t, pl]) st4)
    (e7 : callN prog W 40 23 [.val t, .val t] st4 = .ok (.bl true) st4)
    (hE : evE prog.globs (callN prog W 40) f37c0 [s, x, .val (.cell c), u3, .val (.int m), .val r, .val ms, u7, u8, u9, u10] st4 = .ok v7 st4)
    (e8 : callN prog W 40 18 [.val r, .val ms] st4 = .ok v7 st4) (e9 : callN prog W 40 23 [.val v7, .val v7] st4 = .ok (.bl true) st4) :
    evB prog.globs (callN prog W 40) W f37b0 [s, x, .val (.cell c), u3, u4, u5, u6, u7, u8, u9, u10] st = .nx [s, x, .val (.cell c), u3, .val (.int m), .val r, .val ms, .val v7, u8, u9, u10] st4 := by
  simp only [f37b0, v_con, v_var, v_peek, v_glob, v_tup, v_lst, v_cellL, v_bin, v_cmp, v_chain, v_and, v_or, v_not, v_ite, v_idx, v_slice, v_rev, v_call, v_prim, v_meth, v_neg, evEs, evAs, evA, evI, evT, evIt, evB_cons, evB_nil, s_ite, s_ret, s_set, s_expr, s_raise, s_freeze, s_setT, s_put, s_par, s_for, p_ok, b_ok, b_ra, t_ok, t_ra, l_ok, cm_ok, q_nx, q_ret, q_ra, c_t, c_f, tr_bl, f_ret, f_nx, f_ra, nx_some, varD, peekD, setO, List.getElem?_cons_zero, List.getElem?_cons_succ, List.cons_append, List.nil_append, List.append_nil, List.replicate, Nat.sub_self, List.set_cons_zero, List.set_cons_succ, List.length_cons, List.length_nil, Option.map_some, Option.map_none, Option.bind_some, if_true, reduceIte, Nat.reduceAdd, Nat.reduceLT, Nat.reduceSub, Bool.not_true, Bool.not_false, Bool.false_eq_true, Bool.false_and, Bool.true_and, Bool.and_false, Bool.and_true, intO, ceq, cne, cge, cgt, cle, clt, cin, cnin, nb, reduceCtorEq, decide_true, decide_false, mt0, mt1, mt2, mt3, ml0, ml1, ml2, ml3, Int.reduceNeg, setOs, if_false, bt_name, bt2, bt3, bt4, add_i', e1, hm, e2, e3, e4, e5, e6, iy0', e7, hE, e8, e9, not_bl]
/-- one of the twelve turns -/
theorem turn {s x u3 u4 u5 u6 u7 u8 u9 u10 : Sl} {st : Store} {B : Int} (h : Dk c B st) (hB : B < 900000000) :
    ∃ (m : Nat) (r : R) (ms : List Mk) (v7 : Sl) (st' : Store), evB prog.globs (callN prog W 40) W f37b0 [s, x, .val (.cell c), u3, u4, u5, u6, u7, u8, u9, u10] st = .nx [s, x, .val (.cell c), u3, .val (.int m), .val (eR r), .val (.tup (ms.map eM)), v7, u8, u9, u10] st' ∧ r.Ok ∧ Dk c (B + 100) st' := by
  obtain ⟨q, st1, e1, q0, q1, d1⟩ := w__law_pick 39 h (by omega) (s := 3) (by omega) (by omega)
  obtain ⟨j, rfl⟩ := Int.eq_ofNat_of_zero_le q0
  have hm : (1 : Int) + (j : Int) = ((j + 1 : Nat) : Int) := by omega
  generalize hj : j + 1 = m at hm
  obtain ⟨r, st2, e2, hk, hr, hd, d2⟩ := w_law_a_reader 37 (m := m) (p := 3) d1 (by omega) (by omega) (by omega) (by omega) (by omega)
  obtain ⟨y, st3, e3, hy, d3⟩ := w__law_one 38 (xs := [.int 5, .int 12, .int 40]) d2 (by omega) (by simp) (by simp)
  obtain ⟨M, hM, rfl⟩ : ∃ M : Nat, M ≤ 40 ∧ y = .int M := by
    simp only [List.mem_cons, List.not_mem_nil, or_false] at hy
    rcases hy with rfl | rfl | rfl
    · exact ⟨5, by omega, rfl⟩
    · exact ⟨12, by omega, rfl⟩
    · exact ⟨40, by omega, rfl⟩
  obtain ⟨ms, st4, e4, hl, hms, d4⟩ := w_law_a_text 37 (m := m) (M := M) d3 (by omega) (by omega) hM
  have hms' : ∀ x ∈ ms, MOk r.ks.length x := by rw [hk]; exact hms
  have hl' : ms.length ≤ 40 := by omega
  refine ⟨m, r, ms, .val (.lst ((pilesOf r [] ms).map eP)), st4, ?_, hr, d4.mono (by omega)⟩
  have e5 := w_read (n := 35) (st := st4) hr hl' hms'
  have e6 := w_law_read (n := 36) (st := st4) (v := .tup (ms.map eM)) rfl hr hms' (by omega)
  have ok := read_ok hr ms
  have g : Gd 1000 9 (eT (Rdr.read r ms)) := (gd_t (L := 5 * ms.length + 6) (k := 4) (by omega) (by omega) fun n hn => (ok.2 n hn).wide (by omega)).mono (by omega) (by omega)
  have e7 := w_same (st := st4) (L := 1000) (by omega) 9 29 g
  have e8 := w_piles (n := 35) (st := st4) hr hl' hms'
  have gp : Gd 1000 3 (.lst ((pilesOf r [] ms).map eP)) := by
    refine .lst (by rw [List.length_map, pilesOf_len]; omega) fun d hd => ?_
    obtain ⟨p, hp, rfl⟩ := List.mem_map.mp hd
    rw [pilesOf_eq] at hp
    obtain ⟨i, _, rfl⟩ := List.mem_map.mp hp
    have pl := (run_len (r := r) (ms := ms.take (i + 1)) (p := []) (by simp)).1
    have hd3 := hr.d3
    refine .tup (by simp; omega) fun d hd => ?_
    obtain ⟨a, _, rfl⟩ := List.mem_map.mp hd
    exact .str (by simp)
  have e9 := w_same (st := st4) (L := 1000) (by omega) 3 35 gp
  have hE : evE prog.globs (callN prog W 40) f37c0 [s, x, .val (.cell c), u3, .val (.int m), .val (eR r), .val (.tup (ms.map eM)), u7, u8, u9, u10] st4 = .ok (.lst ((pilesOf r [] ms).map eP)) st4 := by
    rw [pilesOf_eq, List.map_map]
    refine e_rngf (fun i => eP (run r [] (ms.take (i + 1))).1) ?_ (by omega) (fun i hi => ?_) (by simp)
    · have : primD .len (.tup (ms.map eM)) = some (.int ms.length) := by simp [primD]
      simp only [v_con, v_var, v_peek, v_glob, v_tup, v_lst, v_cellL, v_bin, v_cmp, v_chain, v_and, v_or, v_not, v_ite, v_idx, v_slice, v_rev, v_call, v_prim, v_meth, v_neg, evEs, evAs, evA, evI, evT, evIt, evB_cons, evB_nil, s_ite, s_ret, s_set, s_expr, s_raise, s_freeze, s_setT, s_put, s_par, s_for, p_ok, b_ok, b_ra, t_ok, t_ra, l_ok, cm_ok, q_nx, q_ret, q_ra, c_t, c_f, tr_bl, f_ret, f_nx, f_ra, nx_some, varD, peekD, setO, List.getElem?_cons_zero, List.getElem?_cons_succ, List.cons_append, List.nil_append, List.append_nil, List.replicate, Nat.sub_self, List.set_cons_zero, List.set_cons_succ, List.length_cons, List.length_nil, Option.map_some, Option.map_none, Option.bind_some, if_true, reduceIte, Nat.reduceAdd, Nat.reduceLT, Nat.reduceSub, Bool.not_true, Bool.not_false, Bool.false_eq_true, Bool.false_and, Bool.true_and, Bool.and_false, Bool.and_true, intO, ceq, cne, cge, cgt, cle, clt, cin, cnin, nb, reduceCtorEq, decide_true, decide_false, mt0, mt1, mt2, mt3, ml0, ml1, ml2, ml3, Int.reduceNeg, setOs, if_false, bt_name, bt2, bt3, bt4, this]
    · have hc : cut (ms.map eM) none (some ((i : Int) + 1)) = (ms.take (i + 1)).map eM := by
        rw [show ((i : Int) + 1) = ((i + 1 : Nat) : Int) by omega, cut_head, List.map_take]
      have e := w_law_read (n := 36) (st := st4) (v := .tup ((ms.take (i + 1)).map eM)) rfl hr (fun x hx => hms' x (List.mem_of_mem_take hx)) (by rw [List.length_take]; omega)
      simp only [v_con, v_var, v_peek, v_glob, v_tup, v_lst, v_cellL, v_bin, v_cmp, v_chain, v_and, v_or, v_not, v_ite, v_idx, v_slice, v_rev, v_call, v_prim, v_meth, v_neg, evEs, evAs, evA, evI, evT, evIt, evB_cons, evB_nil, s_ite, s_ret, s_set, s_expr, s_raise, s_freeze, s_setT, s_put, s_par, s_for, p_ok, b_ok, b_ra, t_ok, t_ra, l_ok, cm_ok, q_nx, q_ret, q_ra, c_t, c_f, tr_bl, f_ret, f_nx, f_ra, nx_some, varD, peekD, setO, List.getElem?_cons_zero, List.getElem?_cons_succ, List.cons_append, List.nil_append, List.append_nil, List.replicate, Nat.sub_self, List.set_cons_zero, List.set_cons_succ, List.length_cons, List.length_nil, Option.map_some, Option.map_none, Option.bind_some, if_true, reduceIte, Nat.reduceAdd, Nat.reduceLT, Nat.reduceSub, Bool.not_true, Bool.not_false, Bool.false_eq_true, Bool.false_and, Bool.true_and, Bool.and_false, Bool.and_true, intO, ceq, cne, cge, cgt, cle, clt, cin, cnin, nb, reduceCtorEq, decide_true, decide_false, mt0, mt1, mt2, mt3, ml0, ml1, ml2, ml3, Int.reduceNeg, setOs, if_false, bt_name, bt2, bt3, bt4, add_i', sl_t', hc, e, iy1']
  replace e1 : callN prog W 40 20 _ _ = _ := e1
  replace e2 : callN prog W 40 34 [.val (.cell c), .val (.int m), .val (.int 3)] _ = _ := e2
  replace e3 : callN prog W 40 21 _ _ = _ := e3
  replace e4 : callN prog W 40 35 _ _ = _ := e4
  replace e5 : callN prog W 40 17 _ _ = _ := e5
  replace e6 : callN prog W 40 33 _ _ = _ := e6
  replace e7 : callN prog W 40 23 _ _ = _ := e7
  replace e8 : callN prog W 40 18 _ _ = _ := e8
  replace e9 : callN prog W 40 23 _ _ = _ := e9
  exact turn_body e1 hm e2 e3 e4 e5 e6 e7 hE e8 e9
theorem try1 {k : Nat} {cap : List D} {st st' : Store} (e : callN prog W 39 k (cap.map Sl.val) st = .raise ⟨1, none⟩ st') : callN prog W 40 25 [.clo k cap] st = .ok (.str [114, 101, 97, 100, 101, 114, 32, 43]) st' :=
  call_try (d := f25) (tab := tab) rfl rfl rfl e rfl rfl
theorem try4 {k : Nat} {cap : List D} {st st' : Store} (e : callN prog W 39 k (cap.map Sl.val) st = .raise ⟨4, none⟩ st') : callN prog W 40 25 [.clo k cap] st = .ok (.str [109, 97, 114, 107, 115, 32, 43]) st' :=
  call_try (d := f25) (tab := tab) rfl rfl rfl e rfl rfl
theorem lam0 {f : Nat} (hf : f = 17 ∨ f = 18) (st : Store) : callN prog W 39 38 [.val (.fn f)] st = .raise ⟨1, none⟩ st := by
  rw [call_exp (d := f38) rfl rfl rfl, v_callv]
  have e := no_reader (n := 33) (st := st) (w := .non) hf (L := 10) (by omega) (.non (k := 3)) rfl
  simp only [v_con, v_var, v_peek, v_glob, v_tup, v_lst, v_cellL, v_bin, v_cmp, v_chain, v_and, v_or, v_not, v_ite, v_idx, v_slice, v_rev, v_call, v_prim, v_meth, v_neg, evEs, evAs, evA, evI, evT, evIt, evB_cons, evB_nil, s_ite, s_ret, s_set, s_expr, s_raise, s_freeze, s_setT, s_put, s_par, s_for, p_ok, b_ok, b_ra, t_ok, t_ra, l_ok, cm_ok, q_nx, q_ret, q_ra, c_t, c_f, tr_bl, f_ret, f_nx, f_ra, nx_some, varD, peekD, setO, List.getElem?_cons_zero, List.getElem?_cons_succ, List.cons_append, List.nil_append, List.append_nil, List.replicate, Nat.sub_self, List.set_cons_zero, List.set_cons_succ, List.length_cons, List.length_nil, Option.map_some, Option.map_none, Option.bind_some, if_true, reduceIte, Nat.reduceAdd, Nat.reduceLT, Nat.reduceSub, Bool.not_true, Bool.not_false, Bool.false_eq_true, Bool.false_and, Bool.true_and, Bool.and_false, Bool.and_true, intO, ceq, cne, cge, cgt, cle, clt, cin, cnin, nb, reduceCtorEq, decide_true, decide_false, mt0, mt1, mt2, mt3, ml0, ml1, ml2, ml3, Int.reduceNeg, setOs, if_false, bt_name, bt2, bt3, bt4, e]
theorem lam1 {f : Nat} (hf : f = 17 ∨ f = 18) {r : R} (hr : r.Ok) {v : D} {L k : Nat} (hL : L ≤ 1000) (hv : Gd L k v) (h : txtB r.ks.length v = false) (st : Store) : callN prog W 39 39 [.val (.fn f), .val (eR r), .val v] st = .raise ⟨4, none⟩ st := by
  rw [call_exp (d := f39) rfl rfl rfl, v_callv]
  have e := no_text (n := 33) (st := st) hf hr hL hv h
  simp only [v_con, v_var, v_peek, v_glob, v_tup, v_lst, v_cellL, v_bin, v_cmp, v_chain, v_and, v_or, v_not, v_ite, v_idx, v_slice, v_rev, v_call, v_prim, v_meth, v_neg, evEs, evAs, evA, evI, evT, evIt, evB_cons, evB_nil, s_ite, s_ret, s_set, s_expr, s_raise, s_freeze, s_setT, s_put, s_par, s_for, p_ok, b_ok, b_ra, t_ok, t_ra, l_ok, cm_ok, q_nx, q_ret, q_ra, c_t, c_f, tr_bl, f_ret, f_nx, f_ra, nx_some, varD, peekD, setO, List.getElem?_cons_zero, List.getElem?_cons_succ, List.cons_append, List.nil_append, List.append_nil, List.replicate, Nat.sub_self, List.set_cons_zero, List.set_cons_succ, List.length_cons, List.length_nil, Option.map_some, Option.map_none, Option.bind_some, if_true, reduceIte, Nat.reduceAdd, Nat.reduceLT, Nat.reduceSub, Bool.not_true, Bool.not_false, Bool.false_eq_true, Bool.false_and, Bool.true_and, Bool.and_false, Bool.and_true, intO, ceq, cne, cge, cgt, cle, clt, cin, cnin, nb, reduceCtorEq, decide_true, decide_false, mt0, mt1, mt2, mt3, ml0, ml1, ml2, ml3, Int.reduceNeg, setOs, if_false, bt_name, bt2, bt3, bt4, e]
/-- the odd texts -/
def dots : List D := List.replicate 41 (.str [46])
def odds : List D := [.non, .lst [.str [46]], .tup [.str [100, 43]], .str [46], .tup dots]
theorem odds_no {v : D} (h : v ∈ odds) {n : Nat} (hn : n = 1 ∨ n = 2 ∨ n = 3) : Gd 100 3 v ∧ txtB n v = false := by
  simp only [odds, List.mem_cons, List.not_mem_nil, or_false] at h
  rcases h with rfl | rfl | rfl | rfl | rfl
  · exact ⟨.non, rfl⟩
  · exact ⟨.lst (by simp) fun x hx => by rw [List.mem_singleton.mp hx]; exact .str (by simp), rfl⟩
  · refine ⟨.tup (by simp) fun x hx => by rw [List.mem_singleton.mp hx]; exact .str (by simp), ?_⟩
    rcases hn with rfl | rfl | rfl <;> rfl
  · exact ⟨.str (by simp), rfl⟩
  · refine ⟨.tup (by simp [dots]) fun x hx => by rw [(List.mem_replicate.mp hx).2]; exact .str (by simp), ?_⟩
    rcases hn with rfl | rfl | rfl <;> rfl
theorem l_odd {s x u2 u3 u4 u6 u7 u8 : Sl} {f : Nat} (hf : f = 17 ∨ f = 18) {r : R} (hr : r.Ok) {st : Store} : ∀ (vs : List D) (u10 : Sl), (∀ v ∈ vs, v ∈ odds) → ∃ u10', forL (.name 10) (evB prog.globs (callN prog W 40) W f37b1) vs [s, x, u2, u3, u4, .val (eR r), u6, u7, u8, .val (.fn f), u10] st = .nx [s, x, u2, u3, u4, .val (eR r), u6, u7, u8, .val (.fn f), u10'] st
  | [], u10, _ => ⟨u10, fl_nil⟩
  | v :: vs, u10, h => by
    obtain ⟨u10', ih⟩ := l_odd hf hr vs (.val v) fun y hy => h y (List.mem_cons_of_mem _ hy)
    refine ⟨u10', ?_⟩
    have ⟨g, no⟩ := odds_no (h v List.mem_cons_self) (many_or hr)
    have t := try4 (lam1 hf hr (by omega) g no st) (k := 39) (cap := [.fn f, eR r, v])
    have ne : eqD (.str [109, 97, 114, 107, 115, 32, 43]) (.str [109, 97, 114, 107, 115, 32, 43]) = some true := rfl
    rw [fl_cons (ρ1 := [s, x, u2, u3, u4, .val (eR r), u6, u7, u8, .val (.fn f), .val v]) (by rfl) (ρ2 := [s, x, u2, u3, u4, .val (eR r), u6, u7, u8, .val (.fn f), .val v]) (st2 := st), ih]
    simp only [f37b1, v_con, v_var, v_peek, v_glob, v_tup, v_lst, v_cellL, v_bin, v_cmp, v_chain, v_and, v_or, v_not, v_ite, v_idx, v_slice, v_rev, v_call, v_prim, v_meth, v_neg, evEs, evAs, evA, evI, evT, evIt, evB_cons, evB_nil, s_ite, s_ret, s_set, s_expr, s_raise, s_freeze, s_setT, s_put, s_par, s_for, p_ok, b_ok, b_ra, t_ok, t_ra, l_ok, cm_ok, q_nx, q_ret, q_ra, c_t, c_f, tr_bl, f_ret, f_nx, f_ra, nx_some, varD, peekD, setO, List.getElem?_cons_zero, List.getElem?_cons_succ, List.cons_append, List.nil_append, List.append_nil, List.replicate, Nat.sub_self, List.set_cons_zero, List.set_cons_succ, List.length_cons, List.length_nil, Option.map_some, Option.map_none, Option.bind_some, if_true, reduceIte, Nat.reduceAdd, Nat.reduceLT, Nat.reduceSub, Bool.not_true, Bool.not_false, Bool.false_eq_true, Bool.false_and, Bool.true_and, Bool.and_false, Bool.and_true, intO, ceq, cne, cge, cgt, cle, clt, cin, cnin, nb, reduceCtorEq, decide_true, decide_false, mt0, mt1, mt2, mt3, ml0, ml1, ml2, ml3, Int.reduceNeg, setOs, if_false, bt_name, bt2, bt3, bt4, capD, t, ne]
theorem fun1 {s x u2 u3 u4 u6 u7 u8 u10 : Sl} {f : Nat} (hf : f = 17 ∨ f = 18) {r : R} (hr : r.Ok) {st : Store} : ∃ u10', evB prog.globs (callN prog W 40) W f37b2 [s, x, u2, u3, u4, .val (eR r), u6, u7, u8, .val (.fn f), u10] st = .nx [s, x, u2, u3, u4, .val (eR r), u6, u7, u8, .val (.fn f), u10'] st := by
  obtain ⟨u10', e⟩ := l_odd (s := s) (x := x) (u2 := u2) (u3 := u3) (u4 := u4) (u6 := u6) (u7 := u7) (u8 := u8) hf hr (st := st) odds u10 fun _ h => h
  refine ⟨u10', ?_⟩
  have t := try1 (lam0 hf st) (k := 38) (cap := [.fn f])
  have ne : eqD (.str [114, 101, 97, 100, 101, 114, 32, 43]) (.str [114, 101, 97, 100, 101, 114, 32, 43]) = some true := rfl
  have mu : binD .mul (.tup [.str [46]]) (.int 41) = some (.tup dots) := rfl
  have m5 : mkLst [.non, .lst [.str [46]], .tup [.str [100, 43]], .str [46], .tup dots] = some (.lst odds) := rfl
  have it : items (.lst odds) = some odds := rfl
  simp only [f37b2, v_con, v_var, v_peek, v_glob, v_tup, v_lst, v_cellL, v_bin, v_cmp, v_chain, v_and, v_or, v_not, v_ite, v_idx, v_slice, v_rev, v_call, v_prim, v_meth, v_neg, evEs, evAs, evA, evI, evT, evIt, evB_cons, evB_nil, s_ite, s_ret, s_set, s_expr, s_raise, s_freeze, s_setT, s_put, s_par, s_for, p_ok, b_ok, b_ra, t_ok, t_ra, l_ok, cm_ok, q_nx, q_ret, q_ra, c_t, c_f, tr_bl, f_ret, f_nx, f_ra, nx_some, varD, peekD, setO, List.getElem?_cons_zero, List.getElem?_cons_succ, List.cons_append, List.nil_append, List.append_nil, List.replicate, Nat.sub_self, List.set_cons_zero, List.set_cons_succ, List.length_cons, List.length_nil, Option.map_some, Option.map_none, Option.bind_some, if_true, reduceIte, Nat.reduceAdd, Nat.reduceLT, Nat.reduceSub, Bool.not_true, Bool.not_false, Bool.false_eq_true, Bool.false_and, Bool.true_and, Bool.and_false, Bool.and_true, intO, ceq, cne, cge, cgt, cle, clt, cin, cnin, nb, reduceCtorEq, decide_true, decide_false, mt0, mt1, mt2, mt3, ml0, ml1, ml2, ml3, Int.reduceNeg, setOs, if_false, bt_name, bt2, bt3, bt4, capD, t, ne, mu, m5, it, e]
theorem once {s : D} {x : Int} {u2 u3 u4 u5 u6 u7 u8 u9 u10 : Sl} (st : Store) : ∃ (v2 v3 v4 v5 v6 v7 v9 v10 : Sl) (st' : Store),
    evB prog.globs (callN prog W 40) W f37b3 [.val s, .val (.int x), u2, u3, u4, u5, u6, u7, u8, u9, u10] st = .nx [.val s, .val (.int x), v2, v3, v4, v5, v6, v7, u8, v9, v10] st' := by
  obtain ⟨st1, e1, d1⟩ := w__law_deck 39 st x 2 (by omega)
  obtain ⟨ρ, st2, e2, v3, v4, v5, v6, v7, rfl, d2, hr0⟩ := for_run (t := .name 3) (body := evB prog.globs (callN prog W 40) W f37b0) 12 (fun k ρ st' => ∃ v3 v4 v5 v6 v7 : Sl, ρ = [.val s, .val (.int x), .val (.cell st.length), v3, v4, v5, v6, v7, u8, u9, u10] ∧ Dk st.length (2 + 100 * k) st' ∧ (k = 0 ∨ ∃ r : R, v5 = .val (eR r) ∧ r.Ok)) ((List.range 12).map fun (k : Nat) => D.int (k : Int)) 0 [.val s, .val (.int x), .val (.cell st.length), u3, u4, u5, u6, u7, u8, u9, u10] st1 (by
    rintro i hi k ρ st' lt ⟨v3, v4, v5, v6, v7, rfl, d, _⟩
    obtain ⟨m, r, ms, z7, st6, e6, hr, d6⟩ := turn (s := .val s) (x := .val (.int x)) (u3 := .val i) (u4 := v4) (u5 := v5) (u6 := v6) (u7 := v7) (u8 := u8) (u9 := u9) (u10 := u10) d (by omega)
    exact ⟨_, _, st6, rfl, e6, .val i, .val (.int m), .val (eR r), .val (.tup (ms.map eM)), z7, rfl, d6.mono (by omega), .inr ⟨r, rfl, hr⟩⟩) (by simp) ⟨u3, u4, u5, u6, u7, rfl, d1.mono (by omega), .inl rfl⟩
  obtain ⟨r, rfl, hr⟩ := hr0.resolve_left (by simp)
  obtain ⟨w10, f1⟩ := fun1 (s := .val s) (x := .val (.int x)) (u2 := .val (.cell st.length)) (u3 := v3) (u4 := v4) (u6 := v6) (u7 := v7) (u8 := u8) (u10 := u10) (.inl rfl) hr (st := st2)
  obtain ⟨w10', f2⟩ := fun1 (s := .val s) (x := .val (.int x)) (u2 := .val (.cell st.length)) (u3 := v3) (u4 := v4) (u6 := v6) (u7 := v7) (u8 := u8) (u10 := w10) (.inr rfl) hr (st := st2)
  refine ⟨.val (.cell st.length), v3, v4, .val (eR r), v6, v7, .val (.fn 18), w10', st2, ?_⟩
  have rg : rangeD none (.int 12) = some ((List.range 12).map fun (k : Nat) => D.int (k : Int)) := rng_n (m := 12) (by omega)
  have it : items (.tup [.fn 17, .fn 18]) = some [.fn 17, .fn 18] := rfl
  have e3 : forL (.name 9) (evB prog.globs (callN prog W 40) W f37b2) [.fn 17, .fn 18] [.val s, .val (.int x), .val (.cell st.length), v3, v4, .val (eR r), v6, v7, u8, u9, u10] st2 = .nx [.val s, .val (.int x), .val (.cell st.length), v3, v4, .val (eR r), v6, v7, u8, .val (.fn 18), w10'] st2 := by
    rw [fl_cons (by rfl) f1, fl_cons (by rfl) f2, fl_nil]
  simp only [f37b3, v_con, v_var, v_peek, v_glob, v_tup, v_lst, v_cellL, v_bin, v_cmp, v_chain, v_and, v_or, v_not, v_ite, v_idx, v_slice, v_rev, v_call, v_prim, v_meth, v_neg, evEs, evAs, evA, evI, evT, evIt, evB_cons, evB_nil, s_ite, s_ret, s_set, s_expr, s_raise, s_freeze, s_setT, s_put, s_par, s_for, p_ok, b_ok, b_ra, t_ok, t_ra, l_ok, cm_ok, q_nx, q_ret, q_ra, c_t, c_f, tr_bl, f_ret, f_nx, f_ra, nx_some, varD, peekD, setO, List.getElem?_cons_zero, List.getElem?_cons_succ, List.cons_append, List.nil_append, List.append_nil, List.replicate, Nat.sub_self, List.set_cons_zero, List.set_cons_succ, List.length_cons, List.length_nil, Option.map_some, Option.map_none, Option.bind_some, if_true, reduceIte, Nat.reduceAdd, Nat.reduceLT, Nat.reduceSub, Bool.not_true, Bool.not_false, Bool.false_eq_true, Bool.false_and, Bool.true_and, Bool.and_false, Bool.and_true, intO, ceq, cne, cge, cgt, cle, clt, cin, cnin, nb, reduceCtorEq, decide_true, decide_false, mt0, mt1, mt2, mt3, ml0, ml1, ml2, ml3, Int.reduceNeg, setOs, if_false, bt_name, bt2, bt3, bt4, v_fnv, e1, rg, e2, it, e3]
theorem law_holds (ns : List Int) (h : ns.length ≤ 63) : ∃ st, callN prog W (40 + 1) 37 [.val (.lst (ns.map .int))] [] = .ok (.bl true) st := by
  have hx : ∀ y ∈ cut ([D.int 0] ++ ns.map D.int) none (some 10), ∃ x : Int, y = .int x := by
    intro y hy
    rw [show (10 : Int) = ((10 : Nat) : Int) from rfl, cut_head] at hy
    rcases List.mem_append.mp (List.mem_of_mem_take hy) with q | q
    · exact ⟨0, List.mem_singleton.mp q⟩
    · obtain ⟨z, _, rfl⟩ := List.mem_map.mp q
      exact ⟨z, rfl⟩
  have hlen : (cut ([D.int 0] ++ ns.map D.int) none (some 10)).length ≤ 1000 := by
    rw [show (10 : Int) = ((10 : Nat) : Int) from rfl, cut_head, List.length_take]
    omega
  obtain ⟨ρ, st, e, u1, u2, u3, u4, u5, u6, u7, u9, u10, rfl⟩ := for_run (t := .name 1) (body := evB prog.globs (callN prog W 40) W f37b3) 1000 (fun k ρ st' => ∃ u1 u2 u3 u4 u5 u6 u7 u9 u10 : Sl, ρ = [.val (.lst (ns.map .int)), u1, u2, u3, u4, u5, u6, u7, .non, u9, u10]) (cut ([D.int 0] ++ ns.map D.int) none (some 10)) 0 [.val (.lst (ns.map .int)), .non, .non, .non, .non, .non, .non, .non, .non, .non, .non] [] (by
    rintro y hy k ρ st' lt ⟨u1, u2, u3, u4, u5, u6, u7, u9, u10, rfl⟩
    obtain ⟨x, rfl⟩ := hx y hy
    obtain ⟨v2, v3, v4, v5, v6, v7, v9, v10, st6, e6⟩ := once (s := .lst (ns.map .int)) (x := x) (u2 := u2) (u3 := u3) (u4 := u4) (u5 := u5) (u6 := u6) (u7 := u7) (u8 := .non) (u9 := u9) (u10 := u10) st'
    exact ⟨_, _, st6, rfl, e6, .val (.int x), v2, v3, v4, v5, v6, v7, v9, v10, rfl⟩) (by omega) ⟨.non, .non, .non, .non, .non, .non, .non, .non, .non, rfl⟩
  refine ⟨st, ?_⟩
  rw [call_def (d := f37) rfl rfl rfl]
  have it : items (.lst (cut ([D.int 0] ++ ns.map D.int) none (some 10))) = some (cut ([D.int 0] ++ ns.map D.int) none (some 10)) := rfl
  have ad := add_l' (xs := [D.int 0]) (ys := ns.map D.int) (line_le' (b := 1000) (by simp; omega) (by omega))
  simp only [f37, v_con, v_var, v_peek, v_glob, v_tup, v_lst, v_cellL, v_bin, v_cmp, v_chain, v_and, v_or, v_not, v_ite, v_idx, v_slice, v_rev, v_call, v_prim, v_meth, v_neg, evEs, evAs, evA, evI, evT, evIt, evB_cons, evB_nil, s_ite, s_ret, s_set, s_expr, s_raise, s_freeze, s_setT, s_put, s_par, s_for, p_ok, b_ok, b_ra, t_ok, t_ra, l_ok, cm_ok, q_nx, q_ret, q_ra, c_t, c_f, tr_bl, f_ret, f_nx, f_ra, nx_some, varD, peekD, setO, List.getElem?_cons_zero, List.getElem?_cons_succ, List.cons_append, List.nil_append, List.append_nil, List.replicate, Nat.sub_self, List.set_cons_zero, List.set_cons_succ, List.length_cons, List.length_nil, Option.map_some, Option.map_none, Option.bind_some, if_true, reduceIte, Nat.reduceAdd, Nat.reduceLT, Nat.reduceSub, Bool.not_true, Bool.not_false, Bool.false_eq_true, Bool.false_and, Bool.true_and, Bool.and_false, Bool.and_true, intO, ceq, cne, cge, cgt, cle, clt, cin, cnin, nb, reduceCtorEq, decide_true, decide_false, mt0, mt1, mt2, mt3, ml0, ml1, ml2, ml3, Int.reduceNeg, setOs, if_false, bt_name, bt2, bt3, bt4, ad, sl_l']
  simp only [List.cons_append, List.nil_append] at it e
  simp only [it, v_con, v_var, v_peek, v_glob, v_tup, v_lst, v_cellL, v_bin, v_cmp, v_chain, v_and, v_or, v_not, v_ite, v_idx, v_slice, v_rev, v_call, v_prim, v_meth, v_neg, evEs, evAs, evA, evI, evT, evIt, evB_cons, evB_nil, s_ite, s_ret, s_set, s_expr, s_raise, s_freeze, s_setT, s_put, s_par, s_for, p_ok, b_ok, b_ra, t_ok, t_ra, l_ok, cm_ok, q_nx, q_ret, q_ra, c_t, c_f, tr_bl, f_ret, f_nx, f_ra, nx_some, varD, peekD, setO, List.getElem?_cons_zero, List.getElem?_cons_succ, List.cons_append, List.nil_append, List.append_nil, List.replicate, Nat.sub_self, List.set_cons_zero, List.set_cons_succ, List.length_cons, List.length_nil, Option.map_some, Option.map_none, Option.bind_some, if_true, reduceIte, Nat.reduceAdd, Nat.reduceLT, Nat.reduceSub, Bool.not_true, Bool.not_false, Bool.false_eq_true, Bool.false_and, Bool.true_and, Bool.and_false, Bool.and_true, intO, ceq, cne, cge, cgt, cle, clt, cin, cnin, nb, reduceCtorEq, decide_true, decide_false, mt0, mt1, mt2, mt3, ml0, ml1, ml2, ml3, Int.reduceNeg, setOs, if_false, bt_name, bt2, bt3, bt4, e, w_written]
end
end K02
end
set_option maxRecDepth 100000
set_option maxHeartbeats 0
namespace K02
open PySem PySem.Spec PyProof.Rows L2
abbrev PP : Program := PySem.Challenge.pw_otherreader_k02_whole_texts_read
abbrev RR : PySem.W.OpenRow := PySem.W.OpenLaw.row PySem.Challenge.rw_otherreader_k02_whole_texts_read
def top (i : Nat) : Stmt := PP.main.body.getD i (.Pass ⟨0, 0, 0, 0⟩)
def di (x : Str) (i : Nat) (ps N : List Str) (l : Bool) : Snd.DI := ⟨x, x, defArgs (top i), defBody (top i), defScope (top i), ps, N, l⟩
def dis : List Snd.DI := ([di "is_within" 19 ["value", "low", "high"] ["value", "low", "high"] false, di "has_items" 20 ["value", "low", "high"] ["value", "low", "high"] false, di "is_one_of" 21 ["value", "words"] ["value", "words"] false, di "is_reader_value" 22 ["value"] ["value", "kind"] false, di "all_marks" 23 ["many"] ["many", "found", "name"] false, di "is_text_value" 24 ["many", "value", "most"] ["many", "value", "most", "marks", "mark"] false, di "need_reader" 25 ["value"] ["value"] false, di "need_text" 26 ["many", "value"] ["many", "value"] false, di "kind_of" 27 ["reader", "name"] ["reader", "name"] false, di "reads_raw" 28 ["reader", "pile"] ["reader", "pile", "name"] false] : List Snd.DI) ++ ([di "sign_in" 29 ["mark"] ["mark"] false, di "step" 30 ["reader", "pile", "mark"] ["reader", "pile", "mark"] false, di "opened" 31 ["reader", "pile", "name"] ["reader", "pile", "name", "kind", "deeds"] false, di "closed" 32 ["reader", "pile", "name"] ["reader", "pile", "name", "many", "one"] false, di "end_deeds" 33 ["pile"] ["pile", "name"] false, di "all_deeds" 34 ["reader", "marks"] ["reader", "marks", "pile", "found", "mark", "deeds"] false, di "tree_of" 35 ["deeds"] ["deeds", "rows", "names", "word", "what", "part", "node"] false, di "read" 36 ["reader", "text"] ["reader", "text"] false, di "piles" 37 ["reader", "text"] ["reader", "text", "pile", "found", "mark"] false, di "_law_deck" 39 ["_law_cell", "_law_turn"] ["_law_cell", "_law_turn"] false] : List Snd.DI) ++ ([di "_law_pick" 40 ["_law_deck_here", "_law_size"] ["_law_deck_here", "_law_size", "_law_found", "_law_number"] false, di "_law_one" 41 ["_law_deck_here", "_law_some"] ["_law_deck_here", "_law_some"] false, di "_law_sort" 42 ["_law_thing"] ["_law_thing"] false, di "_law_same" 43 ["_law_told", "_law_due"] ["_law_told", "_law_due", "_law_k", "_law_part"] false, di "_law_kin" 44 ["_law_e"] ["_law_e", "_law_sorts", "_law_labels"] false, di "_law_try" 45 ["_law_call_so"] ["_law_call_so", "_law_found", "_law_e"] false, di "_law_readers" 46 [] ["_law_one_here", "_law_two"] false, di "_law_marks" 47 ["_law_many"] ["_law_many", "_law_found", "_law_name_so", "_law_head"] false, di "_law_kind" 48 ["_law_reader_so", "_law_name_so"] ["_law_reader_so", "_law_name_so"] false, di "_law_is_raw" 49 ["_law_reader_so", "_law_names_so"] ["_law_reader_so", "_law_names_so", "_law_one_here"] false] : List Snd.DI) ++ ([di "_law_shut" 50 ["_law_rows_so"] ["_law_rows_so", "_law_last"] false, di "_law_put" 51 ["_law_rows_so", "_law_node"] ["_law_rows_so", "_law_node"] false, di "_law_taken" 52 ["_law_reader_so", "_law_rows_so", "_law_mark_so"] ["_law_reader_so", "_law_rows_so", "_law_mark_so", "_law_kinds_so", "_law_habit_so", "_law_deep", "_law_names_so", "_law_row", "_law_name_so", "_law_kind_so"] false, di "_law_read" 53 ["_law_reader_so", "_law_marks_so"] ["_law_reader_so", "_law_marks_so", "_law_rows_so", "_law_mark_so", "_law_pile", "_law_row"] false, di "_law_a_reader" 54 ["_law_deck_here", "_law_many", "_law_deep"] ["_law_deck_here", "_law_many", "_law_deep", "_law_words", "_law_kinds_so", "_law_turn"] false, di "_law_a_text" 55 ["_law_deck_here", "_law_many", "_law_most"] ["_law_deck_here", "_law_many", "_law_most", "_law_turn"] false, di "_law_written" 56 [] ["_law_n", "_law_r", "_law_m", "_law_v", "_law_own_so", "_law_deep", "_law_due"] false, di "law" 57 ["_law_script"] ["_law_script", "_law_cell", "_law_deck_here", "_law_turn", "_law_many", "_law_reader_so", "_law_text", "_law_due", "_law_at", "_law_call_so", "_law_odd"] true] : List Snd.DI)
def mi : Snd.MI where
  pdefs := prog.defs
  defs := dis
  cons := [("NAMES", (.str [97, 98, 99])), ("KINDS", (.tup [(.str [110, 101, 115, 116]), (.str [118, 111, 105, 100]), (.str [114, 97, 119]), (.str [115, 101, 108, 102]), (.str [109, 111, 100, 101])])), ("HABITS", (.tup [(.str [112, 97, 115, 115]), (.str [115, 101, 97, 114, 99, 104]), (.str [116, 111, 112])])), ("MOST_MARKS", (.int 40))]
  excs := ["ReaderError", "InvalidReader", "InvalidCleaner", "InvalidChain", "InvalidMarks", "InvalidNumber", "InvalidWriter", "InvalidFacts", "InvalidName", "InvalidText", "Unlike", "NothingToUndo", "TooMany"]
  blt := ["ValueError", "all", "any", "bool", "enumerate", "int", "isinstance", "len", "list", "range", "sorted", "str", "super", "tuple", "zip"]
  tryI := ⟨"_law_call_so", "_law_found", "_law_e", "TooMany", "ReaderError", "_law_kin"⟩
  kinI := ⟨⟨"_law_e", "_law_sorts", "_law_labels"⟩, "_law_label", "_law_good", [.set ["InvalidReader", "InvalidCleaner", "InvalidChain"], .app "InvalidMarks", .cat ["InvalidNumber", "InvalidWriter", "InvalidFacts"], .cat ["InvalidName", "InvalidText", "Unlike"], .cat ["NothingToUndo", "TooMany", "ValueError"]], "reader cleaner chain marks number writer facts name text unlike undo many +"⟩
  tryX := 25
  kinX := 24
  tab := tab
  lamN := [37]
theorem ok1 : mi.okB = true := by decide +kernel
theorem ok2 : mi.okB2 = true := by decide +kernel
theorem ok3 : mi.kinsB = true := by decide +kernel
abbrev hk : PySem.W.Hook := He.hookX 4 mi.fa mi.fn [] mi.tf mi.more
def ob (s : PySem.W.SharedT) : He.AlX := He.obsX 4 mi.fa mi.fn [] mi.tf mi.more (HandSHeadRun.getT s)
theorem ob_eq (s : PySem.W.SharedT) : ob s = hk.obs s.abs := He.obsX_eq (HandSHeadRun.getT_eq s)
def loose : List Str := (["ReaderError", "InvalidReader", "InvalidCleaner", "InvalidChain", "InvalidMarks", "InvalidNumber", "InvalidWriter", "InvalidFacts", "InvalidName", "InvalidText", "Unlike", "NothingToUndo", "TooMany", "NAMES", "KINDS", "HABITS", "MOST_MARKS", "is_within", "has_items", "is_one_of"] : List Str) ++ (["is_reader_value", "all_marks", "is_text_value", "need_reader", "need_text", "kind_of", "reads_raw", "sign_in", "step", "opened", "closed", "end_deeds", "all_deeds", "tree_of", "read", "piles", "_law_deck", "_law_pick", "_law_one", "_law_sort"] : List Str) ++ (["_law_same", "_law_kin", "_law_try", "_law_readers", "_law_marks", "_law_kind", "_law_is_raw", "_law_shut", "_law_put", "_law_taken", "_law_read", "_law_a_reader", "_law_a_text", "_law_written"] : List Str)
theorem run (w : World) : HandSHeadRun.RunEq RR (PySem.W.view RR.prog [57]) hk ob 6000 loose w := by
  intro os
  kernel_rfl
theorem prog_eq : mi.prog = prog := by kernel_rfl
theorem at_law : mi.defs[37]? = some (di "law" 57 ["_law_script"] ["_law_script", "_law_cell", "_law_deck_here", "_law_turn", "_law_many", "_law_reader_so", "_law_text", "_law_due", "_law_at", "_law_call_so", "_law_odd"] true) := by kernel_rfl
theorem at_law2 : mi.pdefs[37]? = some f37 := by kernel_rfl
theorem ok_law (ns : List Int) (h : ns.length ≤ 63) (hb : ∀ z ∈ ns, Builtin.Int.intBits z ≤ 1048576) : ∃ st, Mini.callN mi.prog 5000000 (40 + 1) 37 [.val (.lst (ns.map .int))] [] = .ok (.bl true) st := by
  rw [prog_eq]
  exact law_holds ns h
theorem ne1 : 37 ≠ mi.kinX := by decide +kernel
theorem ne2 : 37 ≠ mi.tryX := by decide +kernel
theorem name_law : (HandSHeadRun.topDef RR.prog 57).name = ("law" : Str) := by kernel_rfl
end K02
open PySem PySem.W PySem.Calls PyProof.Rows
theorem PySem.Challenge.cw_otherreader_k02_whole_texts_read_holds : PySem.Challenge.rw_otherreader_k02_whole_texts_read.Holds := by
  w_on; o_law
  refine HandSHeadRun.head_any (r := OpenLaw.row PySem.Challenge.rw_otherreader_k02_whole_texts_read) (q := view (OpenLaw.row PySem.Challenge.rw_otherreader_k02_whole_texts_read).prog [57]) (H := K02.hk) (ob := K02.ob) (M := 6000) (loose := K02.loose) (d := HandSHeadRun.topDef (OpenLaw.row PySem.Challenge.rw_otherreader_k02_whole_texts_read).prog 57) (kwd := []) K02.ob_eq
    (by kernel_rfl) (fun s => by kernel_rfl) K02.run (by kernel_rfl) (by kernel_rfl) (by kernel_rfl) (by rfl) (by first | assumption | decide +kernel) (by decide +kernel) ⟨rfl, rfl, rfl, rfl, rfl, by decide +kernel⟩ ?hw ?hc
  case hw => w_witness2
  case hc =>
    refine LamX.walk_ofTsE (l := PySem.Challenge.rw_otherreader_k02_whole_texts_read) (n := 63) (k := 40 + 1) (x := "_law_script") (CX := fun w => L2N.CX (PySem.Challenge.rw_otherreader_k02_whole_texts_read).prog w) rfl (by decide) (by kernel_rfl) ⟨rfl, by decide, by decide⟩ ?F (fun w H s e s' z => ?N)
    case N => exact Snd.no_way z
    intro w mg fa h Y G hmg0
    obtain ⟨K, KX, c⟩ := Y
    have known : mg ("law" : PySem.Str) = some (.ref fa) := by
      rw [← K02.name_law]
      exact hmg0
    exact ⟨K, KX, Snd.law_at (M := K02.mi) K02.ok1 K02.ok2 K02.ok3 K02.at_law K02.at_law2 rfl K02.ne1 K02.ne2 K02.ok_law KX G known c⟩
